/- A machine on abstract values, its soundness, ways, plain laws. -/
import Derived.Test.YtnljmgihoioocaaGreatHA
import Derived.Lib.Strings
set_option linter.defProp false
set_option linter.unusedVariables false
set_option linter.unusedSimpArgs false
set_option linter.unusedSectionVars false
set_option maxRecDepth 100000
namespace Go.Hb
open AV (agg keyless)
open Nat (add_assoc add_mul beq ble le_refl mul_le_mul mul_le_mul_right succ_mul)
open Option (getD)
noncomputable section
section
variable {P :Program} {E:Emb} {h h':Hp} {w w':World}
theorem rH (l n:Nat) : (iG l n).toList=aP l n:=by rw [ByteArray.toList_eq];rfl
theorem aBx {a b:ByteArray}(h:a.data.toList=b.data.toList) :a=b:=by
 cases a;cases b;simp at h;simp [h]
theorem aMn (l n l' a:Nat) :iG l n++iG l' a=iG (l+l') (n % 256 ^ l+256 ^ l*a) :=by
 apply aBx;simp [iG,aEE]
theorem aJK (l n a b:Nat)(h1:a≤b)(h2:b≤l) : (iG l n).extract a b=iG (b-a) (n / 256 ^ a) :=by
 rw [Lib.extract_eq];apply aBx;simp only [iG];rw [aHZ,aH0 _ _ _ (by omega)]
theorem aJL {op:BinOp}{l n l' b:Nat}{v:AV}(a:aPf op l n l' b=some v)(t:TypeId) :
  ∃cv,(binOp op t (.string (iG l n)) (.string (iG l' b))).run P w= .ok cv w∧VR E v cv:=by
 unfold aPf at a;cases op<;>simp only at a<;>try (cases a;done)
 · cases hb:ble (l+l') 1000000000 with
   |false=>rw [hb]at a;cases a
   | true=>
    rw [hb]at a;simp only [cond]at a;cases a;have c:=Nat.le_of_ble_eq_true hb;refine⟨.string (iG l n++iG l' b),?_,by rw [aMn];simp only [VR];rfl⟩;have:¬ (((iG l n).size+ (iG l' b).size:Nat) :Int) >IntKind.i64.max:=by
     rw [nB,nB];simp [IntKind.max,IntKind.signed,IntKind.bits];omega
    simp only [binOp,Op.stringOp,this,if_false];rfl
 · cases a;refine⟨_,by simp only [binOp,Op.stringOp,rH];rfl,?_⟩;simp only [VR,zJ];congr 1;simp [Bool.beq_eq_decide_eq]
 · cases a;refine⟨_,by simp only [binOp,Op.stringOp,rH];rfl,?_⟩;simp only [VR,zJ];congr 1;simp [Bool.beq_eq_decide_eq]
 · cases a;refine⟨_,by simp only [binOp,Op.stringOp,rH];rfl,?_⟩;simp only [VR]
 · cases a;refine⟨_,by simp only [binOp,Op.stringOp,rH];rfl,?_⟩;simp only [VR]
theorem aPk (d:Nat){t:TypeId}{x y:AV}{i j:Value}{b:Bool}(he:aeq P t x y=some b)(e:VR E x i)(c:VR E y j) :
  (Op.equalIn (d+1) t i j).run P w= .ok b w:=by
 unfold aeq at he;split at he<;>cases he<;>simp only [VR]at e c<;>rename_i f
 ·subst e c;simp [Op.equalIn,aB f]
 ·subst e c;simp [Op.equalIn,aB f]
 ·obtain⟨L,_,rfl⟩ :=c;subst e;simp [Op.equalIn,aB f]
 ·obtain⟨L,_,rfl⟩ :=e;subst c;simp [Op.equalIn,aB f]
 ·obtain⟨u,rfl,_⟩ :=c;subst e;simp [Op.equalIn,aB f]
 ·obtain⟨u,rfl,_⟩ :=e;subst c;simp [Op.equalIn,aB f]
 ·subst e c;simp [Op.equalIn,aB f]
 ·obtain⟨a,b,rfl,_⟩ :=c;subst e;simp [Op.equalIn,aB f]
 ·obtain⟨a,b,rfl,_⟩ :=e;subst c;simp [Op.equalIn,aB f]
 ·subst e c;simp [Op.equalIn,aB f]
 ·obtain⟨L,h,g,_,rfl,_⟩ :=c;subst e;simp [Op.equalIn,aB f]
 ·obtain⟨L,h,g,_,rfl,_⟩ :=e;subst c;simp [Op.equalIn,aB f]
 ·subst e c;simp [Op.equalIn,aB f]
 · rcases e with⟨k,_⟩ | ⟨L,a,g,_,rfl,_⟩
   ·omega
   ·subst c;simp [Op.equalIn,aB f]
theorem aIq {t:TypeId}{x y:AV}{a c:Value}{b:Bool}(he:aeq P t x y=some b)(e:VR E x a)(d:VR E y c) :
  (Op.equal t a c).run P w= .ok b w:=aPk 9999 he e d
theorem aIr (d:Nat){t:TypeId}{a:Array (String×TypeId)}(b:P.underlying t=some (.interface a)) : (Op.equalIn (d+1) t .nilIface .nilIface).run P w= .ok true w:=by
 simp [Op.equalIn,aB b]
theorem aIs {t:TypeId}{x y:AV}{e f:Value}{b:Bool}(he:aeq P t x y=some b)(d:VR E x e)(c:VR E y f)(X Y:Operand)(op:BinOp) :
  (eqGuard op t X Y e f).run P w= .ok () w∧ (op= .eql→binOp op t e f= (do pure (.bool (←Op.equal t e f)))) ∧ (op= .neq→binOp op t e f= (do pure (.bool (!(←Op.equal t e f))))) :=by
 unfold aeq at he;split at he<;>cases he<;>simp only [VR]at d c<;>rename_i j
 all_goals (first
  | (obtain⟨L,a,g,_,rfl,_⟩ :=d.resolve_left (fun h=>by have:=h.1;omega);subst c;refine⟨?_,fun h=>by subst h;simp [binOp],fun h=>by subst h;simp [binOp]⟩;cases op<;>simp [eqGuard])
  | (subst d c;refine⟨?_,fun h=>by subst h;simp [binOp],fun h=>by subst h;simp [binOp]⟩;cases op<;>simp [eqGuard])
  | (obtain⟨L,_,rfl⟩ :=c;subst d;refine⟨?_,fun h=>by subst h;simp [binOp],fun h=>by subst h;simp [binOp]⟩;cases op<;>simp [eqGuard])
  | (obtain⟨L,_,rfl⟩ :=d;subst c;refine⟨?_,fun h=>by subst h;simp [binOp],fun h=>by subst h;simp [binOp]⟩;cases op<;>simp [eqGuard])
  | (obtain⟨u,rfl,_⟩ :=c;subst d;refine⟨?_,fun h=>by subst h;simp [binOp],fun h=>by subst h;simp [binOp]⟩;cases op<;>simp [eqGuard])
  | (obtain⟨u,rfl,_⟩ :=d;subst c;refine⟨?_,fun h=>by subst h;simp [binOp],fun h=>by subst h;simp [binOp]⟩;cases op<;>simp [eqGuard])
  | (obtain⟨a,b,rfl,_⟩ :=c;subst d;refine⟨?_,fun h=>by subst h;simp [binOp],fun h=>by subst h;simp [binOp]⟩;cases op<;>simp [eqGuard])
  | (obtain⟨a,b,rfl,_⟩ :=d;subst c;refine⟨?_,fun h=>by subst h;simp [binOp],fun h=>by subst h;simp [binOp]⟩;cases op<;>simp [eqGuard])
  | (obtain⟨L,i,g,_,rfl,_⟩ :=c;subst d;refine⟨?_,fun h=>by subst h;simp [binOp],fun h=>by subst h;simp [binOp]⟩;cases op<;>simp [eqGuard])
  | (obtain⟨L,i,g,_,rfl,_⟩ :=d;subst c;refine⟨?_,fun h=>by subst h;simp [binOp],fun h=>by subst h;simp [binOp]⟩;cases op<;>simp [eqGuard]))
theorem xM (op:BinOp)(t:TypeId)(X Y:Operand)(k c:IntKind)(a b:Int) : (eqGuard op t X Y (.int k a) (.int c b)).run P w= .ok () w:=by
 cases op<;>simp [eqGuard]
theorem aMo (op:BinOp)(t:TypeId)(X Y:Operand)(a b:ByteArray) : (eqGuard op t X Y (.string a) (.string b)).run P w= .ok () w:=by
 cases op<;>simp [eqGuard]
theorem aPl {op:BinOp}{t:TypeId}{x y:AV}{h i:Value}{v:AV}(X Y:Operand)(c:bAF P op t x y (isLit X) (isLit Y) =some v)(e:VR E x h)(d:VR E y i) :
  ∃cv,(do eqGuard op t X Y h i;binOp op t h i:Sem Value).run P w= .ok cv w∧VR E v cv:=by
 unfold bAF at c;split at c
 · rename_i k a s b;simp only [VR]at e d;subst e d;split at c
   · split at c
     ·cases c
     · rename_i hb;cases c;exact⟨_,by simp [xM,binOp,Op.shift,hb];rfl,by simp [VR]⟩
   · split at c
     ·cases c
     · rename_i hb;cases c;exact⟨_,by simp [xM,binOp,Op.shift,hb];rfl,by simp [VR]⟩
   · rename_i p o;split at c
     · rename_i hk;subst hk;obtain⟨cv,g,f⟩ :=aJJ (P:=P) (w:=w) (E:=E) c t p o;exact⟨cv,by simp [xM,g],f⟩
     ·cases c
 · rename_i l n q r;simp only [VR]at e d;subst e d;obtain⟨cv,g,f⟩ :=aJL (P:=P) (w:=w) (E:=E) c t;exact⟨cv,by simp [aMo,g],f⟩
 · simp only [VR]at e d;subst e d;cases hl: (isLit X||isLit Y)with
   |false=>rw [hl]at c;cases c
   | true=>
    rw [hl]at c;simp only [cond]at c;have m: (eqGuard op t X Y .nilIface .nilIface).run P w= .ok () w:=by
     cases op<;>first| (simp [eqGuard];done) | (cases X<;>cases Y<;>first| (simp [eqGuard];done) | (simp [isLit]at hl))
    split at c
    · rename_i j;cases c;refine⟨.bool true,?_,by simp [VR]⟩;have: (Op.equal t .nilIface .nilIface).run P w= .ok true w:=aIr 9999 j;simp [m,binOp,this]
    · rename_i j;cases c;refine⟨.bool false,?_,by simp [VR]⟩;have: (Op.equal t .nilIface .nilIface).run P w= .ok true w:=aIr 9999 j;simp [m,binOp,this]
    ·cases c
 · split at c
   · rename_i b hb;cases c;obtain⟨g,f,_⟩ :=aIs (w:=w) hb e d X Y .eql;exact⟨.bool b,by simp [g,f,aIq hb e d],by simp [VR]⟩
   · rename_i b hb;cases c;obtain⟨g,_,f⟩ :=aIs (w:=w) hb e d X Y .neq;exact⟨.bool (!b),by simp [g,f,aIq hb e d],by simp [VR]⟩
   ·cases c
theorem aTS {op:UnOp}{x v:AV}{b:Value}(a:aun op x=some v)(c:VR E x b) :∃cv,(Op.unary op b).run P w= .ok cv w∧VR E v cv:=by
 unfold aun at a;split at a<;>cases a<;>simp only [VR]at c<;>subst c
 ·exact⟨_,by simp [Op.unary,Op.intArith];rfl,by simp [VR,aAx]⟩
 ·exact⟨_,by simp [Op.unary];rfl,by simp [VR]⟩
theorem aAy :∀ {c:List AV} {n:Nat} {d:List Value},aEK c=some n→VRs E c d →
  d= (aP c.length n).map fun b=>.int .u8 (b.toNat:Int)
 | [],n,d,h,e=>by simp [e.nil_inv,aP]
 | a :: c,n,d,h,e=>by
  obtain⟨u,j,rfl,g,o⟩ :=e.cons_inv;unfold aEK at h;split at h
  ·rename_i f;cases f
  · rename_i m p f;cases f;split at h
    · rename_i hm;split at h
      · rename_i k hk;cases h;simp only [VR]at g;subst g;have i: (m.toNat+256*k) % 256=m.toNat:=by omega
        have l: (m.toNat+256*k) / 256=k:=by omega
        simp only [oK,aP,dJ,i,l];rw [aAy hk o];congr 1;simp;omega
      ·cases h
    ·cases h
  ·cases h
theorem aH2 (bs:List UInt8)(f:Value→ByteArray→Sem (ForInStep ByteArray))(c:∀ (b:UInt8) s,f (.int .u8 (b.toNat:Int)) s=pure (ForInStep.yield (s.push b))) :
  ∀ (s:ByteArray),(forIn (m:=Sem) (bs.map fun b=>Value.int .u8 (b.toNat:Int)) s f).run P w= .ok ⟨⟨s.data.toList++bs⟩⟩ w:=by
 induction bs with
 |nil=>intro s;simp
 | cons b bs a=>
  intro s;simp only [dJ,List.forIn_cons,Sem.run_bind,c,Sem.run_pure,Result.andThen_ok];have:=a (s.push b);simp at this ⊢;exact this
theorem run_bytesToString {a:Addr}{len cap:Nat}{bs:List UInt8}(h: (loadCells a len).run P w= .ok ⟨bs.map fun b=>Value.int .u8 (b.toNat:Int)⟩ w) :
  (Conv.bytesToString (.slice (some a) len cap)).run P w= .ok (.string ⟨⟨bs⟩⟩) w:=by
 simp only [Conv.bytesToString,Sem.run_bind,h,Result.andThen_ok]
 rw [show(⟨List.map (fun b:UInt8=>Value.int IntKind.u8 (b.toNat:Int)) bs⟩ :Array Value) = (List.map (fun b:UInt8=>Value.int IntKind.u8 (b.toNat:Int)) bs).toArray from rfl,List.forIn_toArray,
  aH2 bs _ (fun b s=>by simp)]
 rfl
theorem aJM (n:Int)(h:0≤n∧n<128) :Utf8.encode n=iG 1 n.toNat:=by
 have a:Utf8.valid n=true:=by simp [Utf8.valid];omega
 have hc:n.toNat<0x80:=by omega
 apply aBx;simp only [Utf8.encode,a,if_true,hc,iG,aP];rw [show n.toNat % 256=n.toNat by omega]
theorem aFz (r:Rel E h w.heap){s d:TypeId}{x v:AV}{p:Value}(a:wV P h s d x=some v)(f:VR E x p) :
  ∃cv,(convert s d p).run P w= .ok cv w∧VR E v cv:=by
 unfold wV at a;split at a
 · rename_i c hd;cases a;simp only [VR]at f;subst f;exact⟨_,by simp [convert,aB c,aB hd,Conv.intToInt];rfl,by simp [VR,aAx]⟩
 · rename_i c hd;split at a
   · rename_i l;cases a;simp only [VR]at f;subst f;exact⟨_,by simp [convert,aB c,aB hd,Conv.intToString];rfl,by simp [VR,aJM _ l]⟩
   ·cases a
 · rename_i c hd;cases a;simp only [VR]at f;subst f;exact⟨_,by simp [convert,aB c,aB hd];rfl,by simp [VR]⟩
 · rename_i e b t len C A x c hd;split at a
   · rename_i o he hl;simp only [VR]at f;obtain⟨L,g,j,hE,rfl,I,G,F,B,D⟩ :=f;obtain⟨H,z,q,y⟩ :=aFy r hl hE;unfold wU at a;split at a
     · rename_i n l;cases a;have m:=aAy l q;have i:o.length=len:=by rw [←q.length,y]
       refine⟨.string (iG o.length n),?_,by simp [VR]⟩;by_cases u:j=0
       · -- an empty slice of no room:nothing is read
         have k:len=0:=by omega
         subst k;have: (loadCells ⟨L.blk,g,none⟩ 0).run P w= .ok ⟨(aP o.length n).map fun b=>Value.int .u8 (b.toNat:Int)⟩ w:=by
          rw [i];simp [loadCells,loadCellsFrom,aP]
         simp only [convert,Sem.run_bind,aB c,aB hd,Result.andThen_ok,aB he];exact run_bytesToString this
       · have:=B u;subst this;simp only [convert,Sem.run_bind,aB c,aB hd,Result.andThen_ok,aB he];exact run_bytesToString (by rw [z P,m])
     ·cases a
   ·cases a
 ·cases a
def OVR (E:Emb) :Option AV→Option Value→Prop
 |none,none=>True
 |some a,some c=>VR E a c
 |_,_=>False
def NVR :Option Nat→Option Value→Prop
 |none,none=>True
 |some n,some c=>∃k,c= .int k (n:Int)
 |_,_=>False
theorem sX {x:Option AV}{cx:Option Value}{m:Option Nat}(h:hM x=some m)(a:OVR E x cx) :NVR m cx:=by
 unfold hM at h;split at h
 ·cases h;cases cx<;>simp_all [OVR,NVR]
 · split at h
   · rename_i b;cases h;cases cx with
     |none=>exact a
     |some c=>simp only [OVR,VR]at a;exact⟨_,by rw [a];congr 1;omega⟩
   ·cases h
 ·cases h
theorem kC (k:IntKind)(i:Nat)(y:Nat)(code:BoundsCode)(h1:i≤y) : (Instr.sliceBound (.int k (i:Int)) y code).run P w= .ok i w:=by
 have: (0:Int) ≤i∧ (i:Int) ≤y:=by omega
 simp [Instr.sliceBound,asIntOf,this]
theorem jQ {isS:Bool}{len cap:Nat}{lo g i:Option Nat}{e f d:Option Value}(h1:NVR lo e)(h2:NVR g f)(k:NVR i d)(hm:i.isSome=true→g.isSome=true)
  (a:lo.getD 0≤g.getD len) (b:g.getD len≤i.getD cap) (c:i.getD cap≤cap) :
  (Instr.sliceBounds isS len cap e f d).run P w= .ok (lo.getD 0,g.getD len,i.getD cap) w:=by
 cases lo<;>cases g<;>cases i<;>cases e<;>cases f<;>cases d<;>simp only [NVR]at h1 h2 k<;>simp only [Option.isSome,getD]at hm a b c ⊢
 case some.some.some.some.some.some l h m _ _ _=>
  obtain⟨n,rfl⟩ :=h1;obtain⟨j,rfl⟩ :=h2;obtain⟨o,rfl⟩ :=k;simp [Instr.sliceBounds,kC _ _ _ _ c,kC _ _ _ _ b,kC _ _ _ _ a]
 case none.some.some.none.some.some=>
  obtain⟨j,rfl⟩ :=h2;obtain⟨o,rfl⟩ :=k;simp [Instr.sliceBounds,kC _ _ _ _ c,kC _ _ _ _ b]
 case some.some.none.some.some.none=>
  obtain⟨n,rfl⟩ :=h1;obtain⟨j,rfl⟩ :=h2;simp [Instr.sliceBounds,kC _ _ _ _ b,kC _ _ _ _ a]
 case none.some.none.none.some.none=>
  obtain⟨j,rfl⟩ :=h2;simp [Instr.sliceBounds,kC _ _ _ _ b]
 case some.none.none.some.none.none=>
  obtain⟨n,rfl⟩ :=h1;simp [Instr.sliceBounds,kC _ _ _ _ a]
 case none.none.none.none.none.none=>simp [Instr.sliceBounds]
 all_goals (simp at hm)
theorem aJN {t:TypeId}{x v:AV}{B:Value}{lo i o:Option Nat}{p q j:Option Value}(d:tW P t x lo i o=some v)(l:VR E x B)
  (h1:NVR lo p) (h2:NVR i q) (z:NVR o j) :∃cv,(Instr.sliceAt t B p q j).run P w= .ok cv w∧VR E v cv:=by
 unfold tW at d;split at d
 · rename_i len n r;split at d
   ·cases d
   · simp only at d;cases hb: (ble (lo.getD 0) (i.getD len) &&ble (i.getD len) len)with
     |false=>rw [hb]at d;cases d
     | true=>
      rw [hb]at d;simp only [cond]at d;cases d;simp only [jG,cF,decide_eq_true_eq]at hb;simp only [VR]at l;subst l;cases j with
      |some c=>exact z.elim
      | none=>
       refine⟨.string ((iG len n).extract (lo.getD 0) (i.getD len)),?_,by simp only [VR];rw [aJK _ _ _ _ hb.1 hb.2];rfl⟩;have:=jQ (P:=P) (w:=w) (isS:=false) (len:=len) (cap:=len) h1 h2 (show NVR none none from trivial) (by simp) hb.1 (by simpa using hb.2) (le_refl _);simp [Instr.sliceAt,Instr.slice,aB r,nB,this]
 · rename_i e b J len cap G exact r;simp only at d;split at d
   ·cases d
   · rename_i sz g;cases hb: (beq sz G&&ble (lo.getD 0) (i.getD len) &&ble (i.getD len) cap)with
     |false=>rw [hb]at d;cases d
     | true =>
      rw [hb]at d;simp only [cond]at d;simp only [jG,bQ,cF,decide_eq_true_eq]at hb;obtain⟨⟨rfl,k⟩,A⟩ :=hb;simp only [VR]at l;obtain⟨L,f,a,hE,rfl,K,M,H,I,N⟩ :=l;cases o with
      | some m =>cases i with
       |none=>cases d
       | some hh=>
        simp only at d;cases hb: (ble (getD (some hh) len) m&&ble m cap)with
        |false=>rw [hb]at d;cases d
        | true =>
         rw [hb]at d;simp only [cond]at d;cases d;simp only [jG,cF,decide_eq_true_eq,Option.getD_some]at hb k A;have:=jQ (P:=P) (w:=w) (isS:=true) (len:=len) (cap:=a) h1 h2 z (by simp) (by simpa using k) (by simpa using hb.1) (by simp;omega);refine⟨.slice (if m=lo.getD 0 then some ⟨L.blk,f,none⟩else some ⟨L.blk,f+lo.getD 0*sz,none⟩) (hh-lo.getD 0) (m-lo.getD 0),?_,?_⟩
         ·simp [Instr.sliceAt,Instr.slice,aB r,this,cD g,gC]
         · simp only [VR];by_cases u:m=lo.getD 0
           · rw [if_pos u];have D:lo.getD 0*sz≤a*sz:=mul_le_mul_right _ (by omega);exact⟨L,f,m-lo.getD 0,hE,rfl,by simp;omega,by omega,fun _=>rfl,fun y=>by omega,by rw [show m-lo.getD 0=0 by omega];omega⟩
           · rw [if_neg u];have y:a≠0:=by have:lo.getD 0≤hh:=k;omega
             have D:m*sz≤a*sz:=mul_le_mul_right _ (by omega);have F:f+lo.getD 0*sz+ (m-lo.getD 0) *sz=f+m*sz:=by
              rw [add_assoc,←add_mul,show lo.getD 0+ (m-lo.getD 0) =m by have:lo.getD 0≤hh:=k;omega]
             exact⟨L,_,m-lo.getD 0,hE,rfl,by simp;omega,by omega,fun _=>rfl,fun _=>by rw [I y];omega,by rw [F];omega⟩
      | none =>
       simp only at d;cases d;cases j with
       |some c=>exact z.elim
       | none =>
        have:=jQ (P:=P) (w:=w) (isS:=true) (len:=len) (cap:=a) h1 h2 (show NVR none none from trivial) (by simp) k (by simp;omega) (le_refl _);refine⟨.slice (if a=lo.getD 0 then some ⟨L.blk,f,none⟩else some ⟨L.blk,f+lo.getD 0*sz,none⟩) (i.getD len-lo.getD 0) (a-lo.getD 0),?_,?_⟩
        ·simp [Instr.sliceAt,Instr.slice,aB r,this,cD g,gC]
        · simp only [VR];by_cases u:a=lo.getD 0
          · rw [if_pos u];exact⟨L,f,a-lo.getD 0,hE,rfl,by omega,by omega,fun l=>by rw [H l],fun y=>by omega,by rw [show a-lo.getD 0=0 by omega];omega⟩
          · rw [if_neg u];have y:a≠0:=by omega
            have F:f+lo.getD 0*sz+ (a-lo.getD 0) *sz=f+a*sz:=by
             rw [add_assoc,←add_mul,show lo.getD 0+ (a-lo.getD 0) =a by omega]
            exact⟨L,_,a-lo.getD 0,hE,rfl,by omega,by omega,fun l=>by rw [H l],fun _=>by rw [I y];omega,by rw [F];omega⟩
 · rename_i e r
   have s:∀ {sz},bA P e=some sz→ (o.isSome=true→i.isSome=true) → (bif beq (lo.getD 0) 0&&beq (i.getD 0) 0&&beq (o.getD 0) 0 then some AV.nils else none) =some v →
     ∃cv,(Instr.sliceAt t B p q j).run P w= .ok cv w∧VR E v cv:=by
    intro sz g C d;cases hb: (beq (lo.getD 0) 0&&beq (i.getD 0) 0&&beq (o.getD 0) 0)with
    |false=>rw [hb]at d;cases d
    | true=>
     rw [hb]at d;simp only [cond]at d;cases d;simp only [bQ,cF,decide_eq_true_eq]at hb;simp only [VR]at l;subst l;have:=jQ (P:=P) (w:=w) (isS:=true) (len:=0) (cap:=0) h1 h2 z C (by omega) (by omega) (by omega);refine⟨.slice none 0 0,?_,by simp [VR]⟩;simp [Instr.sliceAt,Instr.slice,aB r,this,cD g,hb]
   cases g:bA P e with
   |none=>rw [g]at d;cases o<;>cases i<;>cases d
   | some sz=>
    rw [g]at d;cases o with
    |none=>exact s g (fun h=>by cases h) d
    | some m=>cases i with
     |none=>cases d
     |some hh=>exact s g (fun _=>rfl) d
 ·cases d
theorem aFA (off:Nat) :∀ (l:List Value) (k:Nat) (a:Array Value),(l.zipIdx k).foldl (fun a (p:Value×Nat) =>a.setIfInBounds (off+p.2) p.1) a=over a (off+k) l
 | [],_,_=>rfl
 | v::l,k,a=>by
  simp only [List.zipIdx_cons,List.foldl_cons,over];rw [aFA off l (k+1),add_assoc]
theorem uE {e:Nat→Option (Nat×Nat)}:∀ {n:List (Nat×AV)} {qs:List (Nat×Value)} {c h:List AV} {d:Array Value},iZ e c n=some h →
  n.map (·.1) =qs.map (·.1) →VRs E (n.map (·.2)) (qs.map (·.2)) →VRs E c d.toList→∃out,Instr.fill e d qs=some out∧VRs E h out.toList
 | [],qs,c,h,d,f,hk,_,m=>by
  simp [iZ]at f;subst f;have:qs= [] :=by cases qs with|nil=>rfl|cons _ _=>simp at hk
  subst this;exact⟨d,rfl,m⟩
 | (i, a) ::n,qs,c,h,d,f,hk,D,m=>by
  cases qs with
  |nil=>simp at hk
  | cons q qs=>
   obtain⟨j,u⟩ :=q;simp only [dJ,List.cons.injEq]at hk;obtain⟨rfl,hk⟩ :=hk;obtain⟨H,I,he,t,y⟩ :=D.cons_inv;simp only [dJ,List.cons.injEq]at he;obtain⟨rfl,rfl⟩ :=he;simp only [iZ]at f;split at f
   ·cases f
   · rename_i b size F;cases hb: (beq a.cells.length size&&ble (b+size) c.length)with
     |false=>rw [hb]at f;cases f
     | true =>
      rw [hb]at f;simp only [cond]at f;simp only [jG,bQ,cF,decide_eq_true_eq]at hb;have r:u.cells.size=size:=by rw [←hb.1,←t.cells.length];simp
      have C:d.size=c.length:=by rw [←m.length];simp
      have l:VRs E (c.take b++a.cells++c.drop (b+size)) (over d b u.cells.toList).toList:=by
       refine VRs.of_get (by simp [nD];omega) fun k x g=>?_;rw [sU,mC _ _ _ _ (by simp;omega)];simp only [Array.length_toList,r];by_cases A:k<b
       · rw [zq9,iQ (by simp;omega),List.getElem?_take_of_lt A]at g;rw [if_neg (by omega)];obtain⟨v,o,s⟩ :=m.get k x g;exact⟨v,by simpa using o,s⟩
       · by_cases G:k<b+size
         · rw [iQ (by simp;omega),kR (by simp;omega)]at g;simp only [List.length_take]at g;rw [show min b c.length=b by omega]at g;rw [if_pos (by omega)];exact t.cells.get _ x g
         · rw [kR (by simp;omega),List.getElem?_drop]at g;simp only [wT,List.length_take]at g;rw [show b+size+ (k- (min b c.length+a.cells.length)) =k by omega]at g;rw [if_neg (by omega)];obtain⟨v,o,s⟩ :=m.get k x g;exact⟨v,by simpa using o,s⟩
      obtain⟨out,B,w⟩ :=uE f hk y l;refine⟨out,?_,w⟩;have:u.cells.zipIdx.foldl (fun h (p:Value×Nat) =>h.setIfInBounds (b+p.2) p.1) d=over d b u.cells.toList:=by
       rw [←Array.foldl_toList,Array.toList_zipIdx,aFA];rfl
      simp only [Instr.fill,F];rw [if_neg (by simp;omega)];rw [←B];exact congrArg (fun z=>Instr.fill e z qs) this
theorem aEF (l:List Field)(hl:∀f∈l,∃n,bA P f.type=some n) :
  ((l.mapM fun f=>do pure (f.offset,←sizeOf f.type) :Sem (List (Nat×Nat)))).run P w= .ok (l.map fun f=> (f.offset,(bA P f.type).getD 0)) w:=by
 induction l with
 |nil=>simp
 | cons f l c=>
  obtain⟨n,a⟩ :=hl f (dT ..);have:=c (fun g b=>hl g (eD _ b));simp only [List.mapM_cons,Sem.run_bind,cD a,Result.andThen_ok,Sem.run_pure,dJ,a,getD]at this ⊢;rw [this];rfl
theorem aJO {t:TypeId}{ps:List (Nat×AV)}{qs:Array (Nat×Value)}{v:AV}(a:aPg P t ps=some v)(hk:ps.map (·.1) =qs.toList.map (·.1))(hp:VRs E (ps.map (·.2)) (qs.toList.map (·.2))) :
  ∃cv,(Instr.build t qs).run P w= .ok cv w∧VR E v cv:=by
 unfold aPg at a;split at a
 · rename_i z fs hz l;obtain⟨r,g,o⟩ :=iT hz;split at a
   · rename_i u c;cases hb: (fs.all fun f=> (bA P f.type).isSome)with
     |false=>rw [hb]at a;cases a
     | true=>
      rw [hb]at a;simp only [cond]at a;cases a
      have b:∀f∈fs.toList,∃n,bA P f.type=some n:=fun f j=>by
       rw [Array.all_eq_true]at hb;obtain⟨i,q,rfl⟩ :=List.getElem_of_mem j;have:=hb i (by simpa using q);exact Option.isSome_iff_exists.1 (by simpa using this)
      have hm: (fs.mapM fun f=>do pure (f.offset,←sizeOf f.type) :Sem (Array (Nat×Nat))).run P w= .ok (fs.map fun(f:Field) => (f.offset,(bA P f.type).getD 0)) w:=by
       rw [Array.mapM_eq_mapM_toList];simp only [Sem.run_map,aEF (w:=w) fs.toList b,Result.andThen_ok];refine congrArg (fun z=>Result.ok z w) ?_;apply Array.ext';simp
      obtain⟨out,m,k⟩ :=uE c hk hp (o E).cells;refine⟨.agg out,?_,by simp only [VR];exact⟨_,rfl,k⟩⟩
      have p: (fun(i:Nat) => (fs.map fun(f:Field) => (f.offset,(bA P f.type).getD 0))[i]?) = (fun(i:Nat) =>match(fs[i]?:Option Field)with
        | some f=>match bA P f.type with
         |some s=>some (f.offset,s)
         |none=>none
        |none=>none) :=by
       funext i
       rw [Array.getElem?_map];cases j:fs[i]? with
       |none=>rfl
       | some f=>
        have d:f∈fs.toList:=by
         have:=zq44.1 j;obtain⟨q,rfl⟩ :=this;simp
        obtain⟨n,y⟩ :=b f d;simp [y]
      simp only [Instr.build,Sem.run_bind,g,Result.andThen_ok,aB l,hm];have h:Instr.fill (fun(i:Nat) => (fs.map fun(f:Field) => (f.offset,(bA P f.type).getD 0))[i]?) r.cells qs.toList=some out:=by
       rw [p];exact m
      rw [h];rfl
   ·cases a
 · rename_i z e n hz l;obtain⟨r,g,o⟩ :=iT hz;split at a
   ·cases a
   · rename_i s x;split at a
     · rename_i u c;cases a;obtain⟨out,m,k⟩ :=uE c hk hp (o E).cells;refine⟨.agg out,?_,by simp only [VR];exact⟨_,rfl,k⟩⟩;simp only [Instr.build,Sem.run_bind,g,Result.andThen_ok,aB l,cD x,m];rfl
     ·cases a
 ·cases a
theorem oO (cs:List AV) :∀n,(mX cs n).length=n*cs.length
 |0=>by simp [mX]
 |n+1=>by rw [mX,wT,oO cs n,succ_mul];omega
theorem aMp (cs:List AV)(b:0<cs.length) :∀n i,i<n*cs.length→ (mX cs n)[i]?=cs[i % cs.length]?
 |0,i,h=>by simp at h
 | n+1,i,h=>by
  rw [mX];by_cases a:i<cs.length
  ·rw [iQ a,Nat.mod_eq_of_lt a]
  · rw [kR (by omega),aMp cs b n _ (by rw [succ_mul]at h;omega)];rw [←Nat.mod_eq_sub_mod (by omega)]
theorem aC2 {d:List AV}{z:Array Value}(hz:VRs E d z.toList)(n:Nat)(g:0<z.size) :
  VRs E (mX d n) ((Array.range (n*z.size)).map (fun i=>z[i % z.size]!)).toList:=by
 have hl:=hz.length;simp only [Array.length_toList]at hl;refine VRs.of_get (by simp [oO,hl]) fun i a b=>?_;have c:i<n*d.length:=by have:= (zq0.1 b).1;rwa [oO]at this
 rw [aMp _ (by omega) _ _ c]at b;obtain⟨v,e,f⟩ :=hz.get _ a b;refine⟨v,?_,f⟩;rw [sU,Array.getElem?_map,Array.getElem?_range];rw [←hl]at c e;simp only [c,if_true,Option.map_some];simp only [sU]at e;rw [Array.getElem!_eq_getD,aAR,e];rfl
theorem rI (r:Rel E h w.heap){t:TypeId}{len s:Nat}{ps:List (Nat×AV)}{qs:Array (Nat×Value)}{cs:List AV}(d:rB P t len ps=some (cs,s))(hk:ps.map (·.1) =qs.toList.map (·.1))(hp:VRs E (ps.map (·.2)) (qs.toList.map (·.2))) :
  ∃ (out:List Value) (e:TypeId),VRs E cs out∧len*s≤out.length∧∀w,(Instr.buildSlice t len qs).run P w= .ok (.slice (some ⟨w.heap.size,0,none⟩) len len) {w with heap:=w.heap.push (.cells ⟨out⟩ e)}:=by
 unfold rB at d;split at d
 · rename_i e y;split at d
   · rename_i q z x hz;cases hb: (ble (len*q) 1000&& !(beq q 0) &&beq z.cells.length q)with
     |false=>rw [hb]at d;cases d
     | true =>
      rw [hb]at d;simp only [cond]at d;simp only [jG,bQ,cF,decide_eq_true_eq,Bool.not_eq_true',decide_eq_false_iff_not]at hb;split at d
      · rename_i I g;cases d;obtain⟨C,H,A⟩ :=iT hz;have o:= (A E).cells.length;simp only [Array.length_toList]at o;have k:C.cells.size=s:=by omega
        have B:=aC2 (A E).cells len (by omega);rw [k]at B;obtain⟨out,m,u⟩ :=uE g hk hp B;have D :out.toList.length=len*s:=by
         have G:=u.length;have J:∀ {ps:List (Nat×AV)} {c:Nat→Option (Nat×Nat)} {a b:List AV},iZ c a ps=some b→b.length=a.length:=by
          intro ps
          induction ps with
          |nil=>intro c a b f;simp [iZ]at f;rw [f]
          | cons p ps F=>
           intro c a b f;simp only [iZ]at f;split at f
           ·cases f
           · rename_i l size _;cases hc: (beq p.2.cells.length size&&ble (l+size) a.length)with
             |false=>rw [hc]at f;cases f
             | true=>
              rw [hc]at f;simp only [cond]at f;simp only [jG,bQ,cF,decide_eq_true_eq]at hc;rw [F f];simp;omega
         rw [G,J g,oO];rw [hb.2]
        refine⟨out.toList,e,u,by omega,fun w=>?_⟩;have i:¬len*s>2 ^ 24:=by omega
        by_cases v:len*s=0
        · have n:len=0:=by
           rcases Nat.mul_eq_zero.1 v with h|h
           ·exact h
           ·omega
          subst n;have j:Array.range 0= #[] :=rfl;simp only [Nat.zero_mul,j,List.map_toArray,List.map_nil]at m;simp [Instr.buildSlice,aB y,cD x,j,m,newRow]
        · simp only [Instr.buildSlice,Sem.run_bind,aB y,Result.andThen_ok,cD x,i,if_false,Sem.run_pure,v,H];simp only [k];simp [m,newRow]
      ·cases d
   ·cases d
 ·cases d
theorem jR {r:Nat}{a:Array MapEntry}{c:Nat}(hr:w.heap[r]?=some (.map a c)) : (getObj r).run P w= .ok (.map a c) w:=by
 simp [getObj,Sem.run,hr]
theorem uF {r:Nat}{ob ob':Obj}(hr:w.heap[r]?=some ob)(hc:∀c e f,ob≠ .cells c e f) : (setObj r ob').run P w= .ok () (cI w r ob') :=by
 cases ob<;>simp [setObj,Sem.run,hr,cI] <;>exact absurd rfl (hc _ _ _)
theorem aWb (a b:ByteArray) : (a==b) =decide (a=b) :=by
 cases a with|mk x=>cases b with|mk y=>
 show ByteArray.beq _ _=_;simp [ByteArray.beq,Bool.beq_eq_decide_eq]
theorem fH {d:TypeDesc}{k:AV}{a:Value}(h:plainKey d k=true)(hk:VR E k a) :
  (∃i kk n,d= .int i∧k= .int kk n∧a= .int kk n) ∨ (∃l n,d= .string∧k= .str l n∧a= .string (iG l n)) ∨ (∃b,d= .bool∧k= .bool b∧a= .bool b) :=by
 unfold plainKey at h;split at h
 ·simp only [VR]at hk;exact .inl ⟨_,_,_,rfl,rfl,hk⟩
 ·simp only [VR]at hk;exact .inr (.inl ⟨_,_,rfl,rfl,hk⟩)
 ·simp only [VR]at hk;exact .inr (.inr ⟨_,rfl,rfl,hk⟩)
 ·cases h
theorem run_checkKey {t:TypeId}{d:TypeDesc}{k:AV}{a:Value}(e:Bool)(n:Nat)(c:P.underlying t=some d)(hp:plainKey d k=true)(hk:VR E k a) :
  (Instr.checkKey e (n+1) t a).run P w= .ok () w:=by
 rcases fH hp hk with⟨i,kk,m,rfl,rfl,rfl⟩ | ⟨l,m,rfl,rfl,rfl⟩ | ⟨b,rfl,rfl,rfl⟩ <;>simp [Instr.checkKey,aB c]
theorem aAW {d:TypeDesc}{k f:AV}{h c:Value}{b:Bool}(hp:plainKey d k=true)(hk:VR E k h)(a:VR E f c)(hc:pX k f=some b) :
  Instr.sameNow d h c=some b∧ (b=true→c=h) :=by
 rcases fH hp hk with⟨i,kk,m,rfl,rfl,rfl⟩ | ⟨l,m,rfl,rfl,rfl⟩ | ⟨b,rfl,rfl,rfl⟩
 · cases f<;>simp only [pX]at hc<;>try (cases hc;done)
   split at hc
   · rename_i g;cases hc;simp only [VR]at a;subst g a;exact⟨by simp [Instr.sameNow],fun e=>by have:=beq_iff_eq.1 e;rw [this]⟩
   ·cases hc
 · cases f<;>simp only [pX]at hc<;>try (cases hc;done)
   cases hc;simp only [VR]at a;subst a;refine⟨?_,fun e=>?_⟩
   · simp only [Instr.sameNow,zJ,aWb];congr 2;apply propext;constructor
     ·intro e;have:=congrArg (fun s:ByteArray=>s.data.toList) e;exact this
     ·intro e;exact aBx e
   · rw [zJ]at e;have:=of_decide_eq_true e;simp only [iG,this]
 · cases f<;>simp only [pX]at hc<;>try (cases hc;done)
   cases hc;simp only [VR]at a;subst a;exact⟨by simp [Instr.sameNow],fun e=>by have:=beq_iff_eq.1 e;rw [this]⟩
theorem lG {d:TypeDesc}{k:AV}{h:Value}(hp:plainKey d k=true)(hk:VR E k h) :∀ {g:List (AV×AV×Nat)} {c:List MapEntry} {i:Nat} {r:Option (Nat×AV)},ERs E g c→rC k g i=some r →
  match r with
  |none=>Instr.findNow d h c i=some none
  |some (j,v) =>∃e l,i≤j∧g[j-i]?=some l∧c[j-i]?=some e∧Instr.findNow d h c i=some (some (j,e.val)) ∧VR E v e.val∧l.2.1=v∧e.key=h
 | [],c,i,r,he,b=>by
  simp [ERs]at he;simp [rC]at b;subst he b;rfl
 | a ::g,c,i,r,he,b=>by
  simp only [ERs]at he;obtain⟨u,C,rfl,m,t,A,x⟩ :=he;simp only [rC]at b;split at b
  · rename_i hc;cases b;obtain⟨f,w⟩ :=aAW hp hk m hc;exact⟨u,a,le_refl _,by simp,by simp,by simp [Instr.findNow,f],t,rfl,w rfl⟩
  · rename_i hc;obtain⟨f,_⟩ :=aAW hp hk m hc;have:=lG hp hk x b;cases r with
    |none=>simp only at this ⊢;simp [Instr.findNow,f,this]
    | some p=>
     obtain⟨j,v⟩ :=p;simp only at this ⊢;obtain⟨e,l,B,q,o,z,n,s,y⟩ :=this;refine⟨e,l,by omega,?_,?_,by simp [Instr.findNow,f,z],n,s,y⟩
     ·rw [show j-i= (j-Nat.succ i) +1 by omega];simpa using q
     ·rw [show j-i= (j-Nat.succ i) +1 by omega];simpa using o
  ·cases b
theorem ERs.length {b:List (AV×AV×Nat)}{c:List MapEntry}(he:ERs E b c) :c.length=b.length:=by
 induction b generalizing c with
 |nil=>simp [ERs]at he;subst he;rfl
 |cons a b d=>simp only [ERs]at he;obtain⟨u,f,rfl,_,_,_,e⟩ :=he;simp [d e]
theorem ERs.snoc {c:List (AV×AV×Nat)}{d:List MapEntry}(he:ERs E c d){k v:AV}{e cv:Value}{b:Nat}(hk:VR E k e)(f:VR E v cv) :ERs E (c++ [(k,v,b)]) (d++ [{key:=e,val:=cv,born:=b}]) :=by
 induction c generalizing d with
 |nil=>simp [ERs]at he;subst he;simp only [qW,ERs];exact⟨_,[],rfl,hk,f,rfl,rfl⟩
 |cons a c h=>simp only [ERs]at he;obtain⟨u,m,rfl,l,g,j,i⟩ :=he;simp only [sT,ERs];exact⟨u,_,rfl,l,g,j,h i⟩
theorem ERs.setE {c:List (AV×AV×Nat)}{b:List MapEntry}(he:ERs E c b){k v:AV}{j cv:Value}(hk:VR E k j)(l:VR E v cv)(i:Nat)(f:MapEntry→MapEntry)(g:∀e,b[i]?=some e→f e= {e with key:=j,val:=cv}) :
  ERs E (Hb.setE k v c i) (b.modify i f) :=by
 induction c generalizing b i with
 |nil=>simp [ERs]at he;subst he;simp [Hb.setE,ERs]
 | cons a c n=>
  simp only [ERs]at he;obtain⟨u,o,rfl,p,m,d,h⟩ :=he;cases i with
  | zero=>
   have:=g u rfl;simp only [Hb.setE,List.modify_zero_cons,ERs,this];exact⟨_,o,rfl,hk,l,d,h⟩
  | succ i=>
   simp only [Hb.setE,List.modify_succ_cons,ERs];exact⟨u,_,rfl,p,m,d,n h i (fun e he=>g e (by simpa using he))⟩
theorem aTT {c:List (AV×AV×Nat)}{d:List MapEntry}(he:ERs E c d)(i:Nat)(e:MapEntry)(b:d[i]?=some e) :e.born=aJB c i:=by
 induction c generalizing d i with
 |nil=>simp [ERs]at he;subst he;simp at b
 | cons a c f=>
  simp only [ERs]at he;obtain⟨u,k,rfl,l,j,h,g⟩ :=he;cases i with
  |zero=>simp at b;subst b;exact h
  |succ i=>exact f g i (by simpa using b)
theorem xN {d:TypeDesc}{k:AV}{a:Value}(hp:plainKey d k=true)(hk:VR E k a)(n:Nat) :Instr.sameBits n a a=true:=by
 rcases fH hp hk with⟨i,kk,m,rfl,rfl,rfl⟩ | ⟨l,m,rfl,rfl,rfl⟩ | ⟨b,rfl,rfl,rfl⟩ <;>cases n<;>simp [Instr.sameBits,aWb]
theorem aFB {b:Type}{a:Array b}{i:Nat}{x:b}(h:a.toList[i]?=some x) :a[i]?=some x:=by simpa using h
theorem aH3 (r:Rel E h w.heap){t:TypeId}{x k v:AV}{s p:Value}{ok:Bool}(a:aEL P h t x k ok=some v)(j:VR E x s)(hk:VR E k p) :
  ∃cv,(Instr.lookup t s p ok).run P w= .ok cv w∧VR E v cv:=by
 unfold aEL at a;split at a
 · rename_i F H q;split at a
   · rename_i kd z c hz;cases f:plainKey kd k with
     |false=>rw [f]at a;cases a
     | true =>
      rw [f]at a;simp only [cond]at a;obtain⟨g,B,l⟩ :=iT hz;have d:∀e,(Instr.checkKey e 10000 F p).run P w= .ok () w:=fun e=>run_checkKey e 9999 c f hk;split at a
      · cases a;simp only [VR]at j;subst j;refine⟨if ok then .tuple #[g,.bool false]else g,?_,?_⟩
        ·simp [Instr.lookup,aB q,d,Instr.findKey,aB c,Instr.findNow,B]
        · cases ok
          ·exact l E
          ·simp only [VR,if_true];exact⟨_,rfl,VRs.cons (l E) (VRs.cons (by simp [VR]) (VRs.nil E))⟩
      · rename_i m;simp only [VR]at j;obtain⟨L,hE,rfl⟩ :=j;split at a
        · rename_i I o hm;obtain⟨M,A,K,D,y⟩ :=r.obj _ _ hm;rw [hE]at A;cases A;split at a
          · rename_i i u n;cases a;have b:=lG f hk y n;simp only at b;obtain⟨e,J,_,_,_,G,C,_⟩ :=b;refine⟨if ok then .tuple #[e.val,.bool true]else e.val,?_,?_⟩
            ·simp [Instr.lookup,aB q,jR D,d,Instr.findKey,aB c,G]
            · cases ok
              ·exact C
              ·simp only [VR,if_true];exact⟨_,rfl,VRs.cons C (VRs.cons (by simp [VR]) (VRs.nil E))⟩
          · rename_i n;cases a;have b:=lG f hk y n;simp only at b;refine⟨if ok then .tuple #[g,.bool false]else g,?_,?_⟩
            ·simp [Instr.lookup,aB q,jR D,d,Instr.findKey,aB c,b,B]
            · cases ok
              ·exact l E
              ·simp only [VR,if_true];exact⟨_,rfl,VRs.cons (l E) (VRs.cons (by simp [VR]) (VRs.nil E))⟩
          ·cases a
        ·cases a
      ·cases a
   ·cases a
 ·cases a
theorem aFC {m:Nat}{L:Loc}{g b:List (AV×AV×Nat)}{a clock':Nat}{c ES':Array MapEntry}(r:Rel E h w.heap)(hm:h.look m=some (.map g a))(hE:E m=some L)
  (f:w.heap[L.blk]?=some (.map c a)) (he:ERs E b ES'.toList) :
  (∀P,(setObj L.blk (.map ES' clock')).run P w= .ok () (cI w L.blk (.map ES' clock'))) ∧Rel E (h.set m (.map b clock')) (cI w L.blk (.map ES' clock')).heap ∧
   Ext E h w E (h.set m (.map b clock')) (cI w L.blk (.map ES' clock')) :=by
 have:=r.setObj (o':=.map b clock') (.map ES' clock') hm hE rfl rfl (fun i d=> ⟨ES',d,he⟩);exact⟨fun P=>uF f (fun _ _ _ e=>by cases e),this.1,this.2⟩
theorem sE {b:Type}(a:Array b)(i:Nat)(f:b→b) : (a.modify i f).toList=a.toList.modify i f:=by simp
theorem sY (r:Rel E h w.heap){t:TypeId}{x k v:AV}{z j cv:Value}(a:tX P h t x k v=some h')(F:VR E x z)(hk:VR E k j)(B:VR E v cv) :
  ∃w',(Instr.mapUpdate t z j cv).run P w= .ok () w'∧Rel E h' w'.heap∧Ext E h w E h' w':=by
 unfold tX at a;split at a
 · rename_i G K m D;split at a
   · rename_i kd M b d hm;cases f:plainKey kd k with
     |false=>rw [f]at a;cases a
     | true=>
      rw [f]at a;simp only [cond]at a;simp only [VR]at F;obtain⟨L,hE,rfl⟩ :=F;obtain⟨O,A,C,n,l⟩ :=r.obj _ _ hm;rw [hE]at A;cases A;have g:∀e,(Instr.checkKey e 10000 G j).run P w= .ok () w:=fun e=>run_checkKey e 9999 d f hk;split at a
      · rename_i i u o;cases a;have c:=lG f hk l o;simp only [Nat.sub_zero]at c;obtain⟨e,Q,_,_,H,J,N,_,I⟩ :=c;have q:=aFB H;obtain⟨y,p,s⟩ :=aFC (clock':=b) (ES':=C.modify i fun e=>{e with key:=j,val:=cv}) r hm hE n (by rw [sE];exact l.setE hk B i _ (fun _ _=>rfl));refine⟨_,?_,p,s⟩;simp [Instr.mapUpdate,aB D,jR n,g,Instr.findKey,aB d,J,Instr.keyThatStays,q,I,xN f hk,y P]
      · rename_i o;cases a;have c:=lG f hk l o;simp only at c;obtain⟨y,p,s⟩ :=aFC (clock':=b+1) (ES':=C.push {key:=j,val:=cv,born:=b}) r hm hE n (by rw [Array.toList_push];exact l.snoc hk B);refine⟨_,?_,p,s⟩;simp [Instr.mapUpdate,aB D,jR n,g,Instr.findKey,aB d,c,y P]
      ·cases a
   ·cases a
 ·cases a
theorem aEG (r:Rel E h w.heap){t:TypeId}{x k v:AV}{C l:Value}(a:aCW P h t x k=some (v,h'))(M:VR E x C)(hk:VR E k l) :
  ∃I w',(Instr.mapEntry t C l).run P w= .ok I w'∧VR E v I∧Rel E h' w'.heap∧Ext E h w E h' w':=by
 unfold aCW at a;split at a
 · rename_i N T m J;split at a
   · rename_i kd O b z d hm hz;cases f:plainKey kd k with
     |false=>rw [f]at a;cases a
     | true=>
      rw [f]at a;simp only [cond]at a;simp only [VR]at M;obtain⟨L,hE,rfl⟩ :=M;obtain⟨V,F,H,o,g⟩ :=r.obj _ _ hm;rw [hE]at F;cases F;obtain⟨D,Q,K⟩ :=iT hz;have j:∀e,(Instr.checkKey e 10000 N l).run P w= .ok () w:=fun e=>run_checkKey e 9999 d f hk;split at a
      · rename_i i u p;cases a;have c:=lG f hk g p;simp only [Nat.sub_zero]at c;obtain⟨e,W,_,_,y,S,G,_,R⟩ :=c;have s:=aFB y
        obtain⟨B,q,A⟩ :=aFC (clock':=b) (ES':=H.modify i fun e=>{e with key:=l}) r hm hE o (by
         rw [sE];exact g.setE hk G i _ (fun U n=>by rw [y]at n;cases n;rfl))
        refine⟨.tuple #[e.val,.int .i64 (aJB O i)],_,?_,by simp only [VR];exact⟨_,rfl,VRs.cons G (VRs.cons (by simp [VR]) (VRs.nil E))⟩,q,A⟩;simp [Instr.mapEntry,aB J,jR o,j,Instr.findKey,aB d,S,Instr.keyThatStays,s,R,xN f hk,B P,goInt,aTT g i e y]
      · rename_i p;cases a;have c:=lG f hk g p;simp only at c;obtain⟨B,q,A⟩ :=aFC (clock':=b+1) (ES':=H.push {key:=l,val:=D,born:=b}) r hm hE o (by rw [Array.toList_push];exact g.snoc hk (K E));refine⟨.tuple #[D,.int .i64 b],_,?_,by simp only [VR];exact⟨_,rfl,VRs.cons (K E) (VRs.cons (by simp [VR]) (VRs.nil E))⟩,q,A⟩;simp [Instr.mapEntry,aB J,jR o,j,Instr.findKey,aB d,c,B P,Q,goInt]
      ·cases a
   ·cases a
 ·cases a
theorem aFD {v:AV}{cv:Value}(k:VR E v cv){b:Nat}:∀ {h c:List (AV×AV×Nat)} {f:List MapEntry},ERs E h f→aBs v b h=some c →
  ∃i,f.findIdx? (fun e=> (e.born:Int) == (b:Int)) =some i∧ERs E c (f.modify i fun e=>{e with val:=cv})
 | [],c,f,he,d=>by simp [aBs]at d
 | a :: h,c,f,he,d=>by
  simp only [ERs]at he;obtain⟨u,p,rfl,j,n,g,l⟩ :=he;simp only [aBs,bQ]at d;by_cases hb:a.2.2=b
  · simp only [hb,decide_true,cond]at d;cases d;refine⟨0,by simp [List.findIdx?_cons,g,hb],?_⟩;simp only [List.modify_zero_cons,ERs];exact⟨_,p,rfl,j,k,by simp [g,hb],l⟩
  · simp only [hb,decide_false,cond]at d;split at d
    · rename_i r hr;cases d;obtain⟨i,m,o⟩ :=aFD k l hr;refine⟨i+1,?_,?_⟩
      · have: ((u.born:Int) == (b:Int)) =false:=by rw [g];simp;omega
        simp [List.findIdx?_cons,this,m]
      · simp only [List.modify_succ_cons,ERs];exact⟨u,_,rfl,j,n,g,o⟩
    ·cases d
theorem aBy (r:Rel E h w.heap)(t:TypeId){x s v:AV}{l cs cv:Value}(a:wW h x s v=some h')(u:VR E x l)(j:VR E s cs)(y:VR E v cv) :
  ∃w',(Instr.entryStore t l cs cv).run P w= .ok () w'∧Rel E h' w'.heap∧Ext E h w E h' w':=by
 unfold wW at a;split at a
 · rename_i m k n;split at a
   · rename_i H;split at a
     · rename_i I b hm;split at a
       · rename_i z d;cases a;simp only [VR]at u j;subst j;obtain⟨L,hE,rfl⟩ :=u;obtain⟨G,p,c,q,B⟩ :=r.obj _ _ hm;rw [hE]at p;cases p;obtain⟨i,o,A⟩ :=aFD y B d;have f: ((n.toNat:Nat) :Int) =n:=by omega
         rw [f]at o;obtain⟨D,F,C⟩ :=aFC (clock':=b) (ES':=c.modify i fun e=>{e with val:=cv}) r hm hE q (by rw [sE];exact A);refine⟨_,?_,F,C⟩;have g:c.findIdx? (fun e=> (e.born:Int) ==n) =some i:=by cases c;simpa using o
         simp [Instr.entryStore,jR q,asInt,asIntOf,g,D P]
       ·cases a
     ·cases a
   ·cases a
 ·cases a
inductive Adds (P:Program) (w:World) (at1:TypeId) (e:TypeId) (sz:Nat) :Value→List Value→Nat→Prop
 | slice (a:Addr) (n c:Nat) (us:List Value) (d:TypeDesc) (hd:P.underlying at1=some d) (hi:∀k,d≠ .int k) (hl:∀w1:World,w1.heap=w.heap→ (loadCells a (n*sz)).run P w1= .ok ⟨us⟩ w1) :
   Adds P w at1 e sz (.slice (some a) n c) us n
 |nil (d:TypeDesc) (hd:P.underlying at1=some d) (hi:∀k,d≠ .int k) :Adds P w at1 e sz (.slice none 0 0) [] 0
 | zeros (l:Int) (n:Nat) (z:Value) (k:IntKind) (inf:TypeInfo) (us:List Value) (hd:P.underlying at1=some (.int k)) (hl:l= (n:Int)) (hn:n<100000) (hi:P.info? e=some inf) (hb:inf.bytes≤1000)
   (hz:∀w,(zeroValue e).run P w= .ok z w) (hus:us= (Builtin.zeroCells z.cells n).toList) (hs:z.cells.size=sz) (h1:1≤sz) :Adds P w at1 e sz (.int .i64 l) us n
theorem wrap_small {n:Nat}(h:n<100000) :IntKind.i64.wrap (n:Int) =n:=by
 simp [IntKind.wrap,IntKind.bits,IntKind.signed];omega
set_option maxRecDepth 100000 in
theorem run_append_room {b:Array TypeId}{ty st p e:TypeId}{sz len cap n:Nat}{base:Option Addr}{cx:Value}{us:List Value}(hA:Adds P w p e sz cx us n)
  (j:b[0]?=some st) (h1:b[1]?=some p) (y:P.underlying st=some (.slice e)) (x:bA P e=some sz) (g:len+n≤cap)
  (f:match base with|some a=> (storeCells (a.add (len*sz)) us).run P w= .ok () w'|none=>w'=w) :
  (Builtin.append_ b ty #[.slice base len cap,cx]).run P w= .ok (.slice base (len+n) cap) w':=by
 have v: (#[Value.slice base len cap,cx] :Array Value)[0]?=some (.slice base len cap) :=rfl;have u: (#[Value.slice base len cap,cx] :Array Value)[1]?=some cx:=rfl;unfold Builtin.append_;cases hA with
 | slice a n c us d hd t hl=>
  have:=hl w rfl;simp only [j,h1,v,u,Sem.run_bind,aB y,cD x,aB hd,Result.andThen_ok,Sem.run_pure,tZ,if_false,if_true,Builtin.lenOf,Builtin.firstCells,g,Bool.not_false,this];cases base with
  |none=>simp only at f;subst f;simp only [Sem.run_pure]
  |some a=>simp only at f;simp only [Sem.run_bind,f,Result.andThen_ok,Sem.run_pure]
 | nil d hd t=>
  simp only [j,h1,v,u,Sem.run_bind,aB y,cD x,aB hd,Result.andThen_ok,Sem.run_pure,tZ,if_false,if_true,Builtin.lenOf,Builtin.firstCells,g,Bool.not_false];cases base with
  |none=>simp only at f;subst f;simp only [Sem.run_pure]
  |some a=>simp only at f;simp only [Sem.run_bind,f,Result.andThen_ok,Sem.run_pure]
 | zeros l n z k i us hd hl B t hb hz s D C=>
  subst hl;have G:=wrap_small B;have m:¬ ((n:Int) <0) :=by omega
  have r:¬ ((n:Int) * (i.bytes:Int) >2 ^ 48) :=by
   have F:n*i.bytes≤100000*1000:=mul_le_mul (by omega) hb;rw [←Int.natCast_mul];generalize n*i.bytes=q at F;omega
  simp only [j,h1,v,u,Sem.run_bind,aB y,cD x,aB hd,Result.andThen_ok,Sem.run_pure];simp only [if_true,Sem.run_bind,aC1,Result.andThen_ok];simp only [G,m,if_false];simp only [Sem.run_bind,dE t,Result.andThen_ok];rw [if_neg r];simp only [Sem.run_bind,Sem.run_pure,Result.andThen_ok,oM];rw [if_pos g];simp only [Bool.not_true,tZ,if_false,Sem.run_bind];have o: (if n*sz=0 then pure #[]else do let __do_lift ←zeroValue e;pure (Builtin.zeroCells __do_lift.cells n) :Sem (Array Value)).run P w= .ok ⟨us⟩ w:=by
   by_cases j:n*sz=0
   · have A:n=0:=by
      rcases Nat.mul_eq_zero.1 j with h|h
      ·exact h
      ·omega
     subst A;have:us= [] :=by rw [s];simp [Builtin.zeroCells]
     subst this;simp
   ·simp only [j,if_false,Sem.run_bind,hz,Result.andThen_ok,Sem.run_pure,s]
  simp only [o,Result.andThen_ok];cases base with
  |none=>simp only at f;subst f;simp only [Sem.run_pure]
  |some a=>simp only at f;simp only [Sem.run_bind,f,Result.andThen_ok,Sem.run_pure]
theorem aIt (n:Nat) :∀ (r c:Nat),c≤n→Builtin.growBy n r c≤2*n+1000
 |0,c,h=>by simp [Builtin.growBy];omega
 | r+1,c,h=>by
  simp only [Builtin.growBy];split
  ·omega
  · by_cases a:c+ (c+768) / 4≤n
    ·exact aIt n r _ a
    · cases r with
      |zero=>simp [Builtin.growBy];omega
      |succ r=>simp only [Builtin.growBy];rw [if_pos (by omega)];omega
theorem aPm {need cap:Nat}(h:cap<need) :Builtin.nextslicecap need cap≤2*need+1000:=by
 unfold Builtin.nextslicecap;split
 ·omega
 · split
   ·omega
   ·exact aIt need 4 cap (by omega)
set_option maxRecDepth 100000 in
set_option maxHeartbeats 1000000 in
theorem run_append_grow {f:Array TypeId}{ty st D e:TypeId}{sz len cap n:Nat}{base:Option Addr}{cx:Value}{us os:List Value}(hA:Adds P w D e sz cx us n){z:AV}(hz:zeroOf P e=some z)
  {g:TypeInfo} (b:P.info? e=some g) (hb1:1≤g.bytes) (J:g.bytes≤1000)
  (x:f[0]?=some st) (h1:f[1]?=some D) (S:P.underlying st=some (.slice e)) (N:bA P e=some sz) (p:¬len+n≤cap) (hsm:len+n≤3000000)
  (C:∀Q:World,Q.heap=w.heap→ (Builtin.firstCells sz len (.slice base len cap)).run P Q= .ok ⟨os⟩ Q) :
  ∃ i s d,len+n≤i∧s.length= (i- (len+n)) *z.cells.length ∧
   (Builtin.append_ f ty #[.slice base len cap,cx]).run P w= .ok (.slice (some ⟨w.heap.size,0,none⟩) (len+n) i) {w with drawn:=d,heap:=w.heap.push (.cells ⟨os++us++s⟩ e)}:=by
 have L: (#[Value.slice base len cap,cx] :Array Value)[0]?=some (.slice base len cap) :=rfl;have I: (#[Value.slice base len cap,cx] :Array Value)[1]?=some cx:=rfl;obtain⟨V,M,z2⟩ :=iT hz;have K:V.cells.size=z.cells.length:=by have:= (z2 ⟨fun _=>none,fun _=>none⟩).cells.length;simpa using this
 have hng:Builtin.nextslicecap (len+n) cap*g.bytes≤2 ^ 48:=by
  have I:=aPm (need:=len+n) (cap:=cap) (by omega);have e2:Builtin.nextslicecap (len+n) cap*g.bytes≤6001000*1000:=mul_le_mul (by omega) J;omega
 have o:¬Builtin.nextslicecap (len+n) cap*g.bytes>2 ^ 48:=by omega
 have y:¬g.bytes=0:=by omega
 have O:¬ (((len+n:Nat) :Int) >IntKind.i64.max) :=by simp [IntKind.max,IntKind.signed,IntKind.bits];omega
 have Y: (Question.appendCap (len+n) cap e).forced=false:=rfl;obtain⟨d,hd⟩ :∃d,d=w.drawn+1:= ⟨_,rfl⟩;obtain⟨nc,A⟩ :∃nc,nc= (Question.appendCap (len+n) cap e).cut (w.tape w.drawn (.appendCap (len+n) cap e)) := ⟨_,rfl⟩;have R:len+n≤nc:=by rw [A];simp only [Question.cut];omega
 have u: (choose (.appendCap (len+n) cap e)).run P w= .ok nc {w with drawn:=d}:=by
  simp only [run_choose,Y,A,hd];rfl
 have v:∀ (us:List Value) (X:Array Value),(⟨os⟩ ++ ⟨us⟩ ++X:Array Value) = ⟨os++us++X.toList⟩ :=fun us X=>by apply Array.ext';simp
 have m:=C {w with drawn:=d} rfl;refine⟨nc,(Builtin.zeroCells V.cells (nc- (len+n))).toList,d,R,by simp [Builtin.zeroCells,K],?_⟩;unfold Builtin.append_;cases hA with
 | slice a n c us t r H hl=>
  have j: (Builtin.firstCells sz n (Value.slice (some a) n c)).run P {w with drawn:=d}= .ok ⟨us⟩ {w with drawn:=d}:=by simpa [Builtin.firstCells]using hl {w with drawn:=d} rfl
  simp only [x,h1,L,I,Sem.run_bind,aB S,cD N,aB r,Result.andThen_ok,Sem.run_pure,tZ,if_false,Builtin.lenOf];rw [if_neg p];simp only [Sem.run_bind,dE b,Result.andThen_ok];rw [if_neg (fun h=>by rcases h.2 with h|h<;>first|exact y h|cases h)];simp only [Sem.run_bind,dE b,Result.andThen_ok];rw [if_neg o];simp only [Sem.run_bind,u,Result.andThen_ok,dE b,run_askRoom,m,Bool.not_false,if_true,j,M,newRow,run_newObj,Sem.run_pure,v]
 | nil t r H=>
  simp only [x,h1,L,I,Sem.run_bind,aB S,cD N,aB r,Result.andThen_ok,Sem.run_pure,tZ,if_false,Builtin.lenOf];rw [if_neg p];simp only [Sem.run_bind,dE b,Result.andThen_ok];rw [if_neg (fun h=>by rcases h.2 with h|h<;>first|exact y h|cases h)];simp only [Sem.run_bind,dE b,Result.andThen_ok];rw [if_neg o];have j: (Builtin.firstCells sz 0 (Value.slice none 0 0)).run P {w with drawn:=d}= .ok ⟨[]⟩ {w with drawn:=d}:=by simp [Builtin.firstCells]
  simp only [Sem.run_bind,u,Result.andThen_ok,dE b,run_askRoom,m,Bool.not_false,if_true,j,M,newRow,run_newObj,Sem.run_pure,v]
 | zeros l n z' k W us r hl Z H hb T G hs' h1'=>
  subst hl;rw [b]at H;cases H;have hw:=wrap_small Z;have B:¬ ((n:Int) <0) :=by omega
  have F:¬ ((n:Int) * (g.bytes:Int) >2 ^ 48) :=by
   have h3:n*g.bytes≤100000*1000:=mul_le_mul (by omega) hb;rw [←Int.natCast_mul];generalize n*g.bytes=q at h3;omega
  have j:∀w,(if n*sz=0 then pure #[]else do let __do_lift ←zeroValue e;pure (Builtin.zeroCells __do_lift.cells n) :Sem (Array Value)).run P w= .ok ⟨us⟩ w:=fun w=>by
   by_cases x:n*sz=0
   · have U:n=0:=by
      rcases Nat.mul_eq_zero.1 x with h|h
      ·exact h
      ·omega
     subst U;have:us= [] :=by rw [G];simp [Builtin.zeroCells]
     subst this;simp
   ·simp only [x,if_false,Sem.run_bind,T,Result.andThen_ok,Sem.run_pure,G]
  simp only [x,h1,L,I,Sem.run_bind,aB S,cD N,aB r,Result.andThen_ok,Sem.run_pure];simp only [if_true,Sem.run_bind,aC1,Result.andThen_ok];simp only [hw,B,if_false];simp only [Sem.run_bind,dE b,Result.andThen_ok];rw [if_neg F];simp only [Sem.run_bind,Sem.run_pure,Result.andThen_ok,oM];rw [if_neg p];simp only [Sem.run_bind,dE b,Result.andThen_ok];rw [if_neg (fun h=>O h.1)];simp only [Sem.run_bind,dE b,Result.andThen_ok];rw [if_neg o];simp only [Sem.run_bind,u,Result.andThen_ok,dE b,run_askRoom,m,Bool.not_true,tZ,if_false,j,M,newRow,run_newObj,Sem.run_pure,v]
theorem aMq (r:Rel E h w.heap){c:Array TypeId}{e:TypeId}{sz n:Nat}{x:AV}{G:Value}{C:List AV}(a:aMg P h c e sz x=some (C,n))(p:VR E x G)
  {j:TypeInfo} (s:P.info? e=some j) (hb:j.bytes≤1000) (h1:1≤sz) :
  ∃t m,c[1]?=some t∧Adds P w t e sz G m n∧VRs E C m∧m.length=n*sz:=by
 unfold aMg at a;split at a
 ·cases a
 · rename_i v g;split at a
   · rename_i k l o;split at a
     · rename_i hl;split at a
       · rename_i z hz;cases hc: (beq z.cells.length sz&& !(beq sz 0))with
         |false=>rw [hc]at a;cases a
         | true=>
          rw [hc]at a;simp only [cond]at a;cases a;simp only [bQ,cF,decide_eq_true_eq]at hc;obtain⟨H,R,J⟩ :=iT hz;have y:= (J E).cells.length;simp only [Array.length_toList]at y;simp only [VR]at p;subst p;have u:H.cells.size=sz:=by omega
          refine⟨v,_,g,.zeros l l.toNat H k j _ o (by omega) (by omega) s hb R rfl u h1,aC2 (J E).cells _ (by omega),by simp [Builtin.zeroCells,u]⟩
       ·cases a
     ·cases a
   ·cases a
   · rename_i d i o;cases a;simp only [VR]at p;subst p;exact⟨v,[],g,.nil d o (fun k e=>by subst e;exact i k rfl),VRs.nil E,by simp⟩
   · rename_i d b M len Q A V i o;cases hc:beq A sz with
     |false=>rw [hc]at a;cases a
     | true =>
      rw [hc]at a;simp only [cond]at a;have:=iF hc;subst this;split at a
      · rename_i m f;cases a;simp only [VR]at p;obtain⟨L,F,q,hE,rfl,X,Y,W,U,Z⟩ :=p;by_cases N:q=0
        · have D:n=0:=by omega
          subst D;have B:C= [] :=by
           unfold Hp.loadN at f;split at f
           ·simp [getCells]at f;exact f
           ·cases f
          subst B;exact⟨v,[],g,.slice _ _ _ _ d o (fun k e=>by subst e;exact i k rfl) (fun I _=>by simp [loadCells,loadCellsFrom]),VRs.nil E,by simp⟩
        · obtain⟨m,O,K,S⟩ :=xH r f hE;have:=U N;subst this;exact⟨v,m,g,.slice _ _ _ _ d o (fun k e=>by subst e;exact i k rfl) (fun I T=>O P I T),K,S⟩
      ·cases a
   ·cases a
theorem Rel.inplace (r:Rel E h w.heap){b off m k:Nat}{t T':T AV}{older:List Nat}(hb:h.look b=some (.cells t k older false)){L:Loc}(hE:E b=some L)
  {N:List AV} {us:List Value} (hv:VRs E N us) (Q:dF N=true) (hk:k≤off+m) (hfit:L.sh+off+m+N.length≤L.sz)
  (hT:∀i a,T'.at i=some a→i<m+N.length∧ (if i<m then t.at (off+i) =some a else N[i-m]?=some a)) (e:Nat) (he:e=L.sh+off+m) :
  ∃ w',(∀P,(storeCells ⟨L.blk,e,none⟩ us).run P w= .ok () w') ∧
   Rel (E.put h.nb ⟨L.blk,L.sh+off,L.sz⟩) ((h.set b (.cells t k older true)).new (.cells T' (m+N.length) (b::older) false)) w'.heap ∧
   Ext E h w (E.put h.nb ⟨L.blk,L.sh+off,L.sz⟩) ((h.set b (.cells t k older true)).new (.cells T' (m+N.length) (b::older) false)) w':=by
 subst he;obtain⟨L',g1,C,e,M,g3,g4⟩ :=r.obj _ _ hb;rw [hE]at g1;cases g1;have hf:E h.nb=none:=r.fresh _ (le_refl _);have hbn:b≠h.nb:=fun e=>by rw [e,hf]at hE;cases hE
 have I:E.le (E.put h.nb ⟨L.blk,L.sh+off,L.sz⟩) :=Emb.le_put hf;have hul:=hv.length
 have q:∀ {x ox g},h.look x=some ox→E x=some g→x≠b→Own ox g L.blk→x∈older∧jO ox=true∧g.sh+nOf ox≤L.sh+k:=fun s hEx H d=>by
  rcases r.kin _ _ _ _ _ _ hb s hE hEx ⟨_,rfl,d⟩ (fun e=>H e.symm)with F| ⟨_,F,_⟩
  ·exact F
  ·cases F
 have J:∀ {ox:AObj} {g:Loc},jO ox=true→g.sh+nOf ox≤L.sh+k→Own ox g L.blk→OR E w.heap g ox→OR (E.put h.nb ⟨L.blk,L.sh+off,L.sz⟩) (cI w L.blk (.cells (over C (L.sh+off+m) us) e (0,0))).heap g ox:=by
  intro ox g K hn d Q;cases ox with
  |zone w0 r0 Z=>cases K
  | cells tx nx j sx=>
   have d:g.blk=L.blk:=d;obtain⟨C',e',z,k3,k4⟩ :=Q;rw [d,M]at z;cases z;refine⟨_,e,by rw [d];exact qC M,by rw [nD];exact k3,fun i a ha=>?_⟩;obtain⟨q0,v,R,q2⟩ :=k4 i a ha;refine⟨q0,v,?_,q2.mono I⟩;simp only [nOf]at hn;rw [mC _ _ _ _ (by omega),if_neg (by omega)];exact R
  |map es c=>have d:g.blk=L.blk:=d;obtain⟨ES,z,_⟩ :=Q;rw [d,M]at z;cases z
  |siter l n p=>have d:g.blk=L.blk:=d;obtain⟨z,_⟩ :=Q;rw [d,M]at z;cases z
  |loop st pe fn tm nt ps aS bd df=>have d:g.blk=L.blk:=d;obtain⟨_,_,z,_⟩ :=Q;rw [d,M]at z;cases z
  |defd tk=>have d:g.blk=L.blk:=d;simp only [OR]at Q;rw [d,M]at Q;cases Q
  |lst ee xs=>cases K
  |lstv u ee xs=>cases K
 have hks:∀x ox,((h.set b (.cells t k older true)).new (.cells T' (m+N.length) (b::older) false)).look x=some ox→x=h.nb∨∃o0,h.look x=some o0:=fun x ox e=>by
  rw [cS,jP]at e;split at e
  ·rename_i s;exact .inl s
  · rw [aY]at e;split at e
    ·rename_i s;subst s;exact .inr ⟨_,hb⟩
    ·exact .inr ⟨ox,e⟩
 refine⟨cI w L.blk (.cells (over C (L.sh+off+m) us) e (0,0)),fun P=>?_,⟨?_,?_,?_,r.imm_put hb hE _,?_,fun x ox e=>by
  rw [oW,jP];rcases hks x ox e with rfl| ⟨o0,e0⟩
  ·omega
  ·have:=r.keys x o0 e0;omega⟩,⟨I,by simp [cI],?_,?_,by simp [oW,jP],rfl,rfl,rfl,fun x s=>Emb.put_ne _ _ (by omega),(fun a _=>uD M rfl rfl a),fun _ _ e _=>.inl e,fun x ox e s=> (hks x ox e).resolve_left (by omega)⟩⟩
 · have:=mD (P:=P) us (w:=w) (b:=L.blk) (k:=L.sh+off+m) (i:=0) M (by omega) (hv.ones Q);simpa using this
 · intro x ox f;rw [cS,jP]at f;split at f
   · rename_i s;cases f;subst s;refine .inr ⟨_,Emb.put_same _ _ _,over C (L.sh+off+m) us,e,qC M,by rw [nD];exact g3,fun i a ha=>?_⟩;obtain⟨q0,R⟩ :=hT i a ha;refine⟨q0,?_⟩;by_cases B:i<m
     · rw [if_pos B]at R;obtain⟨_,v,p1,p2⟩ :=g4 _ _ R;refine⟨v,?_,p2.mono I⟩;rw [mC _ _ _ _ (by omega),if_neg (by simp only;omega)];rw [←p1];congr 1;simp only;omega
     · rw [if_neg B]at R;obtain⟨v,p1,p2⟩ :=hv.get _ _ R;refine⟨v,?_,p2.mono I⟩;rw [mC _ _ _ _ (by omega),if_pos (by simp only;omega)];rw [←p1];congr 1;simp only;omega
   · rename_i s;rw [aY]at f;split at f
     · rename_i O;cases f;subst O;refine .inr ⟨L,by rw [Emb.put_ne _ _ s];exact hE,?_⟩;exact J (ox:=.cells t k older true) rfl (by simp [nOf]) rfl ⟨C,e,M,g3,g4⟩
     · rename_i O;rcases r.obj0 x ox f with⟨u1,u2⟩ | ⟨g,k1,z⟩
       ·exact .inl ⟨u1,by rw [Emb.put_ne _ _ s];exact u2⟩
       refine .inr ⟨g,by rw [Emb.put_ne _ _ s];exact k1,?_⟩;by_cases d:Own ox g L.blk
       ·exact J (q f k1 O d).2.1 (q f k1 O d).2.2 d z
       ·exact(z.mono I).heap fun i B=>by simp only [cI];rw [tY (fun e:L.blk=i=>d (by rw [e];exact B))]
 · intro x y ox V g Y f o j D d H;rw [cS,jP]at f o;have A:∀ {y V Y},y≠h.nb→ (h.set b (.cells t k older true)).look y=some V→E y=some Y→Own V Y L.blk→y∈b::older∧jO V=true∧Y.sh+nOf V≤L.sh+off+ (m+N.length) :=by
    intro y V Y X o D d;rw [aY]at o;split at o
    · rename_i U;cases o;subst U;rw [hE]at D;cases D;exact⟨dT ..,rfl,by simp [nOf];omega⟩
    · rename_i U;obtain⟨R,q2,q3⟩ :=q o D U d;exact⟨eD _ R,q2,by omega⟩
   by_cases G:x=h.nb
   · subst G;have X:y≠h.nb:=fun e=>H e.symm;rw [if_pos rfl]at f;cases f;rw [if_neg X]at o;rw [Emb.put_same]at j;cases j;rw [Emb.put_ne _ _ X]at D;obtain⟨i,W,S⟩ :=d;obtain rfl:L.blk=i:=W;exact .inl (A X o D S)
   · rw [if_neg G]at f;rw [Emb.put_ne _ _ G]at j;by_cases F:y=h.nb
     · subst F;rw [if_pos rfl]at o;cases o;rw [Emb.put_same]at D;cases D;obtain⟨i,W,S⟩ :=d;obtain rfl:L.blk=i:=S;exact .inr (A G f j W)
     · rw [if_neg F]at o;rw [Emb.put_ne _ _ F]at D;rw [aY]at f o;by_cases h3:x=b
       · subst h3;have X:y≠x:=fun e=>H e.symm;rw [if_pos rfl]at f;cases f;rw [if_neg X]at o;rw [hE]at j;cases j;obtain⟨i,W,S⟩ :=d;obtain rfl:L.blk=i:=W;exact .inl (q o D X S)
       · rw [if_neg h3]at f;by_cases h4:y=b
         · subst h4;rw [if_pos rfl]at o;cases o;rw [hE]at D;cases D;obtain⟨i,W,S⟩ :=d;obtain rfl:L.blk=i:=S;exact .inr (q f j h3 W)
         · rw [if_neg h4]at o;exact r.kin x y ox V g Y f o j D d H
 · intro x s;rw [oW,jP]at s;rw [Emb.put_ne _ _ (by omega)];exact r.fresh x (by omega)
 · intro x ox g f j i B;show E.imm i=none;rw [cS,jP]at f;by_cases G:x=h.nb
   · subst G;rw [if_pos rfl]at f;cases f;rw [Emb.put_same]at j;cases j;exact r.apart b _ L hb hE i B
   · rw [if_neg G,aY]at f;rw [Emb.put_ne _ _ G]at j;by_cases F:x=b
     ·subst F;rw [if_pos rfl]at f;cases f;exact r.apart x _ g hb j i B
     ·rw [if_neg F]at f;exact r.apart x ox g f j i B
 · intro i B hno;simp only [cI];rw [tY (hno b _ L hb hE)]
 · intro x ox g f j i B hlt;rw [cS,jP]at f;by_cases G:x=h.nb
   · subst G;rw [if_pos rfl]at f;cases f;rw [Emb.put_same]at j;cases j;exact⟨b,_,L,hb,hE,B⟩
   · rw [if_neg G,aY]at f;rw [Emb.put_ne _ _ G]at j;by_cases F:x=b
     ·subst F;rw [if_pos rfl]at f;cases f;rw [hE]at j;cases j;exact⟨x,_,L,hb,hE,B⟩
     ·rw [if_neg F]at f;exact⟨x,ox,g,f,j,B⟩
theorem Ext.drawn {E':Emb}(x:Ext E h w E' h' w')(d:Nat) :Ext E h w E' h' {w' with drawn:=d}:=
 ⟨x.le,x.size,x.keep,x.own,x.nb,x.os,x.tape,x.output,x.low,x.froz,x.immo,x.keys⟩
theorem aC3 {sz len cap:Nat}{a:Addr}{os:List Value}(h:∀w1:World,w1.heap=w.heap→ (loadCells a (len*sz)).run P w1= .ok ⟨os⟩ w1) :
  ∀w1:World,w1.heap=w.heap→ (Builtin.firstCells sz len (.slice (some a) len cap)).run P w1= .ok ⟨os⟩ w1:=fun w1 b=>by
 simp only [Builtin.firstCells];exact h w1 b
theorem old_cells (r:Rel E h w.heap){b off m:Nat}{old:List AV}(hl:h.loadN b off m=some old){L:Loc}(hE:E b=some L){c a:Nat}(l:a≠0→c=L.sh+off)(i:a=0→m=0) :
  ∃e,(∀d:World,d.heap=w.heap→ (loadCells ⟨L.blk,c,none⟩ m).run P d= .ok ⟨e⟩ d) ∧VRs E old e∧e.length=m:=by
 by_cases hc:a=0
 · have hm:=i hc;subst hm;have:old= [] :=by
    unfold Hp.loadN at hl;split at hl
    ·simp [getCells]at hl;exact hl
    ·cases hl
   subst this;exact⟨[],fun d _=>by simp [loadCells,loadCellsFrom],VRs.nil E,rfl⟩
 · have:=l hc;subst this;obtain⟨e,k,g,f⟩ :=xH r hl hE;exact⟨e,fun d j=>k P d j,g,f⟩
theorem aTU {b off m:Nat}{old:List AV}(hl:h.loadN b off m=some old){t:T AV}{n:Nat}{k:List Nat}{s:Bool}(hb:h.look b=some (.cells t n k s)) :old.length=m∧∀j,j<m→t.at (off+j) =old[j]?:=by
 unfold Hp.loadN at hl;rw [hb]at hl;exact nW hl
theorem Rel.supersede (r:Rel E h w.heap){b k:Nat}{t:T AV}{older:List Nat}(hb:h.look b=some (.cells t k older false)) :
  Rel E (h.set b (.cells t k older true)) w.heap∧Ext E h w E (h.set b (.cells t k older true)) w:=by
 have d:∀ {x a},(h.set b (.cells t k older true)).look x=some a→∃c,h.look x=some c∧ (∀E H L,OR E H L c→OR E H L a) ∧bW a=bW c∧nOf a=nOf c∧ (jO c=true→jO a=true) ∧lN c=lN a∧∀L i,Own a L i→Own c L i:=by
  intro x a e;rw [aY]at e;split at e
  ·rename_i A;cases e;subst A;exact⟨_,hb,fun _ _ _ h=>h,rfl,rfl,fun _=>rfl,rfl,fun _ _ h=>h⟩
  ·exact⟨a,e,fun _ _ _ h=>h,rfl,rfl,fun h=>h,rfl,fun _ _ h=>h⟩
 refine⟨⟨?_,?_,fun x A=>r.fresh x A,r.imm,?_,fun x a e=>by obtain⟨c,g,_⟩ :=d e;exact r.keys x c g⟩,⟨Emb.le.refl E,le_refl _,fun _ _ _=>rfl,?_,le_refl _,rfl,rfl,rfl,fun _ _=>rfl,fun _ _=>rfl,fun _ _ e _=>.inl e,fun x a e _=>by obtain⟨c,g,_⟩ :=d e;exact⟨c,g⟩⟩⟩
 · intro x a e;obtain⟨c,g,W,_,_,_,J,_⟩ :=d e;rcases r.obj0 x c g with⟨V,M⟩ | ⟨L,R,G⟩
   ·exact .inl ⟨by rw [←J];exact V,M⟩
   exact .inr ⟨L,R,W _ _ _ G⟩
 · intro x y a oy l X f I o U v p;obtain⟨m,j,_,Y,C,D,_,n⟩ :=d f;obtain⟨O,N,_,K,B,Q,_,F⟩ :=d I;obtain⟨i,Z,S⟩ :=v;rcases r.kin x y m O l X j N o U ⟨i,n _ _ Z,F _ _ S⟩ p with⟨u,z,s⟩ | ⟨u,z,s⟩
   ·exact .inl ⟨by rw [Y];exact u,Q z,by rw [C,B];exact s⟩
   ·exact .inr ⟨by rw [K];exact u,D z,by rw [C,B];exact s⟩
 · intro x a l f o i q;obtain⟨m,j,_,_,_,_,_,n⟩ :=d f;exact r.apart x m l j o i (n _ _ q)
 · intro x a l f o i q _;obtain⟨m,j,_,_,_,_,_,n⟩ :=d f;exact⟨x,m,l,j,o,n _ _ q⟩
set_option maxHeartbeats 1000000 in
theorem aappend_sound (r : Rel E h w.heap){j:Array TypeId}{ty:TypeId}{s x v:AV}{cs cx:Value}(g:aappend P h j s x=some (v,h'))(hs:VR E s cs)(hx:VR E x cx) :
  ∃cv w' K,(Builtin.append_ j ty #[cs,cx]).run P w= .ok cv w'∧VR K v cv∧Rel K h' w'.heap∧Ext E h w K h' w':=by
 unfold aappend at g;split at g
 ·cases g
 · rename_i st y;split at g
   · rename_i e Y;split at g
     · rename_i sz inf z B G hz;split at g
       ·cases g
       · rename_i vs n hadd;cases hc: (beq z.cells.length sz&&ble sz 40&&ble inf.bytes 1000&&ble 1 inf.bytes&&ble 1 sz&&dF vs&&ble n 1000000)with
         |false=>rw [hc]at g;cases g
         | true =>
          rw [hc]at g;simp only [cond]at g;simp only [jG,bQ,cF,decide_eq_true_eq]at hc;obtain⟨⟨⟨⟨⟨⟨hzl,hs40⟩,V⟩,hb1⟩,hs1⟩,M⟩,hn6⟩ :=hc;obtain⟨at1,U,o,hA,A,hul⟩ :=aMq (P:=P) (w:=w) r hadd hx G V hs1;split at g
          · -- the nil slice
            simp only [VR]at hs;subst hs;cases D:beq n 0 with
            | true=>
             rw [D]at g;simp only [cond]at g;cases g;have:=iF D;subst this;have W:U= [] :=zq35.1 (by omega);subst W;refine⟨.slice none 0 0,w,E,?_,by simp [VR],r,Ext.refl _ _ _⟩;exact run_append_room (base:=none) (len:=0) (cap:=0) (w':=w) hA y o Y B (by omega) rfl
            | false=>
             rw [D]at g;simp only [cond]at g;cases g;have Z:n≠0:=fun e=>by subst e;cases D
             obtain⟨nc,l,d,k1,k2,k3⟩ :=run_append_grow (ty:=ty) (base:=none) (len:=0) (cap:=0) (os:=[]) hA hz G hb1 V y o Y B (by omega) (by omega) (fun w1 _=>by simp [Builtin.firstCells]);simp only [eX,qW]at k1 k2 k3;obtain⟨Q,R⟩ :=xK r A e l;refine⟨_,_,_,k3,rG w h _ n n sz nc false (le_refl _) k1 (fun e=>by cases e) ?_,Q,R.drawn d⟩;rw [wT,k2,hul,hzl,←add_mul];exact mul_le_mul_right _ (by omega)
          · rename_i b off len cap esz exact;cases hc: (beq esz sz&&ble len 1000000&&ble cap 1000000)with
            |false=>rw [hc]at g;cases g
            | true =>
             rw [hc]at g;simp only [cond]at g;simp only [jG,bQ,cF,decide_eq_true_eq]at hc;obtain⟨⟨rfl,hlen6⟩,hcap6⟩ :=hc;simp only [VR]at hs;obtain⟨L,q,c,hE,rfl,g1,g2,g3,g4,g5⟩ :=hs;cases hr:ble (len+n) cap with
             | true =>
              rw [hr]at g;simp only [cond]at g;have p:=Nat.le_of_ble_eq_true hr;cases D:beq n 0 with
              | true=>
               rw [D]at g;simp only at g;cases g;have:=iF D;subst this;have W:U= [] :=zq35.1 (by omega);subst W;refine⟨.slice (some ⟨L.blk,q,none⟩) len c,w,E,?_,?_,r,Ext.refl _ _ _⟩
               ·exact run_append_room (base:=some ⟨L.blk,q,none⟩) (len:=len) (cap:=c) (w':=w) hA y o Y B (by omega) rfl
               ·simp only [VR];exact⟨L,q,c,hE,rfl,g1,g2,g3,g4,g5⟩
              | false =>
               rw [D]at g;simp only at g;have Z:n≠0:=fun e=>by subst e;cases D
               split at g
               · rename_i h2 u;cases g;unfold aIn at u;split at u
                 · rename_i t k older hb;cases u;have H:=g4 (by omega);subst H;have hvl:=A.length;have hm: (len+n) *esz≤c*esz:=mul_le_mul_right _ (by omega);rw [add_mul]at hm;obtain⟨w2,Q,R,q3⟩ :=r.write (off:=off+len*esz) hb hE A M (max k (off+len*esz+vs.length)) (Nat.le_max_left _ _) (fun _=>Nat.le_max_right _ _) (by omega);refine⟨.slice (some ⟨L.blk,L.sh+off,none⟩) (len+n) c,w2,E,?_,?_,R,q3⟩
                   · refine run_append_room (base:=some ⟨L.blk,L.sh+off,none⟩) (len:=len) (cap:=c) (w':=w2) hA y o Y B (by omega) ?_;simp only [gC];rw [add_assoc];exact Q P
                   ·simp only [VR];exact⟨L,L.sh+off,c,hE,rfl,by omega,g2,g3,fun _=>rfl,g5⟩
                 ·cases u
               ·cases g
             | false =>
              rw [hr]at g;simp only [cond]at g;have hnroom:¬len+n≤cap:=fun e=>by rw [Nat.ble_eq_true_of_le e]at hr;cases hr
              have Z:n≠0:=fun e=>by subst e;omega
              split at g
              ·cases g
              · rename_i old O;have hc0:c=0→len*esz=0:=fun e=>by rw [show len=0 by omega,Nat.zero_mul]
                obtain⟨os,o1,o2,o3⟩ :=old_cells (P:=P) r O hE g4 hc0
                have F:∀ (T':T AV) (N:Nat) (J:List Nat) (X:Hp),X.nb=h.nb→Rel E X w.heap→Ext E h w E X w→¬len+n≤c →
                  (∀i a,T'.at i=some a→i<N∧ (old++vs)[i]?=some a) →
                  ∃cv w' K,(Builtin.append_ j ty #[.slice (some ⟨L.blk,q,none⟩) len c,cx]).run P w= .ok cv w'∧VR K (.slice h.nb 0 (len+n) (len+n) esz false) cv∧Rel K (X.new (.cells T' N J false)) w'.heap∧Ext E h w K (X.new (.cells T' N J false)) w':=by
                 intro T' N J X hnb r1 x1 hno hT;obtain⟨nc,l,d,k1,k2,k3⟩ :=run_append_grow (ty:=ty) (base:=some ⟨L.blk,q,none⟩) (len:=len) (cap:=c) (os:=os) hA hz G hb1 V y o Y B hno (by omega) (aC3 o1)
                 obtain⟨Q,R⟩ :=r1.new (.cells T' N J false) (.cells ⟨os++U++l⟩ e) (os++U++l).length (fun K H' hle _ hH=> ⟨⟨os++U++l⟩,e,hH,rfl,fun i a f=>by
                  obtain⟨p1,p2⟩ :=hT i a f;obtain⟨v,p3,p4⟩ := (o2.append A).get i a p2;refine⟨p1,v,?_,p4.mono hle⟩;have hlt:= (zq0.1 p3).1;simp only [eX];rw [show(⟨os++U++l⟩ :Array Value) = (os++U++l).toArray from rfl,List.getElem?_toArray,iQ hlt];exact p3⟩)
                 rw [hnb]at Q R;refine⟨_,_,_,k3,?_,Q,x1.trans (R.drawn d)⟩;refine rG w h _ (len+n) (len+n) esz nc false (le_refl _) k1 (fun e=>by cases e) ?_;rw [wT,wT,k2,hul,hzl,o3,←add_mul,←add_mul];exact mul_le_mul_right _ (by omega)
                cases exact with
                | true=>
                 simp only at g;cases g;have hce:=g3 rfl
                 exact F _ _ _ h rfl r (Ext.refl _ _ _) (by omega) (fun i a f=>by
                  rw [bH]at f;split at f
                  ·rename_i S;exact⟨S,f⟩
                  ·cases f)
                | false =>
                 simp only at g;split at g
                 · rename_i t k older hb;cases hk:ble k (off+len*esz)with
                   |false=>rw [hk]at g;cases g
                   | true =>
                    rw [hk]at g;simp only at g;cases g;have hk':=Nat.le_of_ble_eq_true hk;obtain⟨ol,og⟩ :=aTU O hb;have hvl:=A.length;obtain⟨Lb,e1,C,ee,e2,e3,e4⟩ :=r.obj _ _ hb;rw [hE]at e1;cases e1;have hT :∀i a,(bif beq off 0 then putCells t (len*esz) vs else putCells .leaf 0 (old++vs)).at i=some a→i<len*esz+vs.length∧ (if i<len*esz then t.at (off+i) =some a else vs[i-len*esz]?=some a) :=by
                     intro i a f;rw [bQ]at f;by_cases D:off=0
                     · subst D;simp only [decide_true,cond]at f;rw [xF]at f;split at f
                       ·rename_i S;exact⟨S.2,by rw [if_neg (by omega)];exact f⟩
                       · rename_i S;have:= (e4 i a f).1;exact⟨by omega,by rw [if_pos (by omega)];simpa using f⟩
                     · simp only [D,decide_false,cond]at f;rw [bH]at f;split at f
                       · rename_i S;rw [wT,ol]at S;refine⟨S,?_⟩;split
                         · rename_i I;rw [iQ (by omega)]at f;rw [og i I];exact f
                         · rename_i I;rw [kR (by omega),ol]at f;exact f
                       ·cases f
                    have hT2:∀i a,(bif beq off 0 then putCells t (len*esz) vs else putCells .leaf 0 (old++vs)).at i=some a→i<old.length+vs.length∧ (old++vs)[i]?=some a:=by
                     intro i a f;obtain⟨p1,p2⟩ :=hT i a f;refine⟨by omega,?_⟩;split at p2
                     · rename_i I;rw [iQ (by omega),←og i I];exact p2
                     · rename_i I;rw [kR (by omega),ol];exact p2
                    by_cases p:len+n≤c
                    · have H:=g4 (by omega);subst H;have hm: (len+n) *esz≤c*esz:=mul_le_mul_right _ (by omega);rw [add_mul]at hm;obtain⟨w2,Q,R,q3⟩ :=r.inplace (off:=off) (m:=len*esz) hb hE A M hk' (by omega) hT (L.sh+off+len*esz) rfl;refine⟨.slice (some ⟨L.blk,L.sh+off,none⟩) (len+n) c,w2,E.put h.nb ⟨L.blk,L.sh+off,L.sz⟩,?_,?_,?_,?_⟩
                      · refine run_append_room (base:=some ⟨L.blk,L.sh+off,none⟩) (len:=len) (cap:=c) (w':=w2) hA y o Y B p ?_;simp only [gC];exact Q P
                      · simp only [VR];exact⟨_,L.sh+off,c,Emb.put_same _ _ _,rfl,le_refl _,p,(fun e=>by cases e),fun _=>rfl,g5⟩
                      ·rw [ol];exact R
                      ·rw [ol];exact q3
                    · obtain⟨r1,x1⟩ :=r.supersede hb;exact F _ _ _ _ rfl r1 x1 p hT2
                 ·cases g
          ·cases g
     ·cases g
   ·cases g
end
section
variable {P :Program} {E:Emb} {h h':Hp} {w w':World} {tm:T AV} {ρ:Operand→Value}
theorem dQ {x:Operand}{k:AV→Option AOut}{o:AOut}(h:ev1 tm x k=some o) :∃a,cE tm x=some a∧k a=some o:=by
 unfold ev1 at h;split at h
 ·rename_i v b;exact⟨v,b,h⟩
 ·cases h
theorem hR {x y:Operand}{k:AV→AV→Option AOut}{o:AOut}(h:ev2 tm x y k=some o) :∃a b,cE tm x=some a∧cE tm y=some b∧k a b=some o:=by
 unfold ev2 at h;split at h
 · rename_i v c;split at h
   ·rename_i u d;exact⟨v,u,c,d,h⟩
   ·cases h
 ·cases h
theorem eE {v:Option AV}{o:AOut}(b:val v h=some o) :∃a,v=some a∧o= .val a h:=by
 unfold val at b;split at b
 ·cases b;exact⟨_,rfl,rfl⟩
 ·cases b
theorem uG {v:Option Hp}{o:AOut}(a:aFt v=some o) :∃h',v=some h'∧o= .val .undef h':=by
 unfold aFt at a;split at a
 ·cases a;exact⟨_,rfl,rfl⟩
 ·cases a
theorem aIu {v:Option (AV×Hp)}{o:AOut}(b:aFs v=some o) :∃a h',v=some (a,h') ∧o= .val a h':=by
 unfold aFs at b;split at b
 ·cases b;exact⟨_,_,rfl,rfl⟩
 ·cases b
theorem pH {f:Nat}{a:Array Value}(hc:fG P f=true) : (callFunc f a).run P w= .ok (.enter f a) w:=by
 unfold fG at hc;split at hc
 · rename_i fn c;simp only [cF,Bool.not_eq_true']at hc;have b:fn.body.isNone=false:=by cases hb:fn.body<;>simp_all
   simp only [callFunc,Sem.run_bind,run_program,Result.andThen_ok,c,hc.2,tZ,if_false,b,Sem.run_pure]
 ·cases hc
theorem aPn {t:TypeId}{b:String}{f:Nat}{v:Value}(hm:pZ P t b=some f)(k:Nat) : (method (k+1) t v b).run P w= .ok (f,v) w:=by
 unfold pZ at hm;split at hm
 ·cases hm
 · rename_i i n;split at hm
   ·cases hm
   · rename_i m a;split at hm
     · rename_i j l c;cases hm;simp [method,dE n,a,j,follow,l,receiverAt,aB c,Place.get]
     ·cases hm
     · rename_i d g j l c;cases hm;have:∀e,d≠ .pointer e:=fun e h=>by subst h;exact g e rfl
       simp only [method,Sem.run_bind,dE n,Result.andThen_ok,a,j,follow,Sem.run_pure,l,receiverAt,aB c];cases d<;>first|exact absurd rfl (this _) |simp [Place.get]
     ·cases hm
theorem aBz {t:TypeId}{b:String}{f:Nat}{v:Value}(hm:pZ P t b=some f)(k:Nat) : (nilAhead (k+1) t v b).run P w= .ok (some false) w:=by
 unfold pZ at hm;split at hm
 ·cases hm
 · rename_i i l;split at hm
   ·cases hm
   · rename_i m a;split at hm
     · rename_i g j n;cases hm;simp [nilAhead,dE l,a,g,followBlind,j]
     ·cases hm
     · rename_i d c g j n;cases hm;have:∀e,d≠ .pointer e:=fun e h=>by subst h;exact c e rfl
       simp only [nilAhead,Sem.run_bind,dE l,Result.andThen_ok,a,g,followBlind,Sem.run_pure,j,aB n];cases d<;>first|exact absurd rfl (this _) |simp
     ·cases hm
theorem aIv (P:Program) :∃k,P.types.size+Made.depth=k+1:=by
 have:0<Made.depth:=by decide
 exact⟨P.types.size+ (Made.depth-1),by omega⟩
theorem aFE {t:TypeId}{b:String}{f:Nat}{v:Value}{a:Array Value}(hm:pZ P t b=some f)(hc:fG P f=true) :
  (callMethod (.iface t v) b a).run P w= .ok (.enter f (#[v] ++a)) w:=by
 obtain⟨k,hk⟩ :=aIv P;simp only [callMethod,Sem.run_bind,run_program,Result.andThen_ok,hk,aPn hm,pH hc]
theorem xO {f:Nat}{a:List AV}{o:AOut}(h:aAT P f a=some o) :fG P f=true∧o= .call (.enter f a) :=by
 unfold aAT at h;cases hc:fG P f with
 |false=>rw [hc]at h;cases h
 |true=>rw [hc]at h;simp only [cond]at h;cases h;exact⟨rfl,rfl⟩
theorem aAz {h:AV}{e:Value}{b:String}{a:List AV}{cargs:List Value}{o:AOut}(c:aEM P h b a=some o)(hr:VR E h e)(i:VRs E a cargs) :
  ∃f g d,o= .call (.enter f g) ∧VRs E g d∧ (callMethod e b ⟨cargs⟩).run P w= .ok (.enter f ⟨d⟩) w:=by
 unfold aEM at c;split at c
 · rename_i t v;split at c
   · rename_i f hm;obtain⟨hc,rfl⟩ :=xO c;simp only [VR]at hr;obtain⟨u,rfl,j⟩ :=hr;refine⟨f,_,u::cargs,rfl,VRs.cons j i,?_⟩;rw [aFE hm hc];simp
   ·cases c
 ·cases c
theorem aBA (r:Rel E h w.heap){B:AV}{j:Value}{args:List AV}{cargs:List Value}{o:AOut}(c:wY P B args=some o)(i:VR E B j)(p:VRs E args cargs) :
  ∃d,(Deferred.ofValue j ⟨cargs⟩).run P w= .ok d w∧Out P E h w ((invoke d.target d.args).run P w) o:=by
 unfold wY at c;split at c
 · rename_i f first H
   obtain⟨hc,rfl⟩ :=xO c;simp only [VR]at i;obtain⟨a,b,rfl,I,F⟩ :=i;refine⟨{target:=.fn (.func f) ⟨b⟩,args:= ⟨a⟩ ++ ⟨cargs⟩},by simp [Deferred.ofValue],?_⟩;refine⟨a++cargs++b,?_,(I.append p).append F⟩;simp only [invoke,pH hc];congr 2;apply Array.ext';simp
 · rename_i l;cases c;simp only [VR]at i;obtain⟨L,G,rfl⟩ :=i;refine⟨{target:=.fn (.yield L.blk) #[],args:= #[] ++ ⟨cargs⟩},by simp [Deferred.ofValue],?_⟩;refine⟨cargs,L,G,p,?_⟩;simp only [invoke];congr 2;apply Array.ext';simp
 · rename_i n g;simp only [VR]at i;obtain⟨u,rfl,k⟩ :=i;obtain⟨f,J,x,rfl,D,C⟩ :=aAz (w:=w) c k p;refine⟨{target:=.fn (.method n) #[],args:= #[u] ++ ⟨cargs⟩},by simp [Deferred.ofValue],?_⟩;refine⟨x,?_,D⟩;have y: (#[u] ++ ⟨cargs⟩ :Array Value)[0]?=some u:=by simp
   have s: (#[u] ++ ⟨cargs⟩ :Array Value).extract 1 (#[u] ++ ⟨cargs⟩ :Array Value).size= ⟨cargs⟩ :=by
    apply Array.ext';simp
   simp only [invoke,y,s,C]
 · rename_i t f A g
   have m:∀ {o},aAT P f (g::args) =some o→ (∀u:Value,(receiverVia t u #[] A).run P w= .ok u w) →
     ∃d,(Deferred.ofValue j ⟨cargs⟩).run P w= .ok d w∧Out P E h w ((invoke d.target d.args).run P w) o:=by
    intro o c q;obtain⟨hc,rfl⟩ :=xO c;simp only [VR]at i;obtain⟨u,rfl,k⟩ :=i;refine⟨{target:=.fn (.via t #[] f A) #[],args:= #[u] ++ ⟨cargs⟩},by simp [Deferred.ofValue],?_⟩;refine⟨u::cargs,?_,VRs.cons k p⟩;have y: (#[u] ++ ⟨cargs⟩ :Array Value)[0]?=some u:=by simp
    have s: (#[u] ++ ⟨cargs⟩ :Array Value).extract 1 (#[u] ++ ⟨cargs⟩ :Array Value).size= ⟨cargs⟩ :=by
     apply Array.ext';simp
    simp only [invoke,y,s,Sem.run_bind,q u,Result.andThen_ok,pH hc];refine congrArg (fun z=>Result.ok (Next.enter f z) w) ?_;apply Array.ext';simp
   split at c
   · rename_i e k;exact m c (fun u=>by simp [receiverVia,follow,receiverAt,aB k,Place.get])
   ·cases c
   · rename_i d v k
     exact m c (fun u=>by
      have:∀e,d≠ .pointer e:=fun e h=>by subst h;exact v e rfl
      simp only [receiverVia,Array.toList_empty,follow,Sem.run_bind,Sem.run_pure,Result.andThen_ok,receiverAt,aB k];cases d<;>first|exact absurd rfl (this _) |simp [Place.get])
   ·cases c
 ·cases c
theorem uH {s:TypeId}{i o:Nat}(a:aFu P s i=some o)(b k:Nat) : (Instr.fieldAt s (.pointer (some ⟨b,k,none⟩)) i).run P w= .ok (.pointer (some ⟨b,k+o,none⟩)) w:=by
 unfold aFu at a;split at a
 · rename_i fs d;split at a
   · rename_i f e;split at a
     · rename_i n c;cases a;simp [Instr.fieldAt,aB d,e,Instr.sureAddr,fieldPlace,cD c,gC]
     ·cases a
   ·cases a
 ·cases a
theorem lO {i:AV}{b:Value}{len k:Nat}(hb:iY i len=some k)(a:VR E i b) :∃kk,b= .int kk (k:Int) ∧k<len:=by
 unfold iY at hb;split at hb
 · split at hb
   · rename_i c;cases hb;simp only [VR]at a;exact⟨_,by rw [a];congr 1;omega,by omega⟩
   ·cases hb
 ·cases hb
theorem aFF {t:TypeId}{d:TypeDesc}{s off:Nat}{a:List AV}{cs:Array Value}{v:AV}(f:P.underlying t=some d)(g:bA P t=some s)(c:VRs E a cs.toList)
  (hp: (bif isAggD d then some (agg ((a.drop off).take s))else a[off]?) =some v) :∃cv,(part t cs off).run P w= .ok cv w∧VR E v cv:=by
 cases hd:isAggD d with
 | true=>
  rw [hd]at hp;simp only [cond]at hp;cases hp;refine⟨.agg (cs.extract off (off+s)),by simp [part,rF f,hd,cD g],?_⟩;simp only [VR];refine⟨(cs.extract off (off+s)).toList,rfl,?_⟩;have:= (c.drop off).take s;have e: (cs.extract off (off+s)).toList= (cs.toList.drop off).take s:=by simp
  rw [e];exact this
 | false=>
  rw [hd]at hp;simp only [cond]at hp;obtain⟨cv,i,h⟩ :=c.get _ _ hp;have b:cs[off]?=some cv:=by simpa using i
  exact⟨cv,by simp [part,rF f,hd,b],h⟩
theorem aBB {p b:TypeId}{ok:Bool}{a v:AV}{o:Value}(c:wZ P b ok a=some v)(h:VR E a o) :
  ∃cv,(Instr.typeAssert o p b ok).run P w= .ok cv w∧VR E v cv:=by
 unfold wZ at c;split at c
 ·cases c
 ·cases c
 · rename_i d k i;have hd:∀ms,d≠ .interface ms:=fun ms e=>k ms (by rw [e]);split at c
   · cases ok with
     |false=>cases c
     | true=>
      simp only [cond]at c;split at c
      · rename_i z hz;cases c;obtain⟨l,j,m⟩ :=iT hz;simp only [VR]at h;subst h;refine⟨.tuple #[l,.bool false],?_,by simp only [VR];exact⟨_,rfl,VRs.cons (m E) (VRs.cons (by simp [VR]) (VRs.nil E))⟩⟩;cases d<;>first|exact absurd rfl (hd _) |simp [Instr.typeAssert,aB i,j]
      ·cases c
   · rename_i t u;simp only [VR]at h;obtain⟨n,rfl,g⟩ :=h;rw [bQ]at c;by_cases f:t=b
     · simp only [f,decide_true,cond]at c;cases ok with
       | true=>
        cases c;refine⟨.tuple #[n,.bool true],?_,by simp only [VR];exact⟨_,rfl,VRs.cons g (VRs.cons (by simp [VR]) (VRs.nil E))⟩⟩;cases d<;>first|exact absurd rfl (hd _) |simp [Instr.typeAssert,aB i,f]
       | false=>
        cases c;refine⟨n,?_,g⟩;cases d<;>first|exact absurd rfl (hd _) |simp [Instr.typeAssert,aB i,f]
     · simp only [f,decide_false,cond]at c;cases ok with
       |false=>cases c
       | true=>
        simp only at c;split at c
        · rename_i z hz;cases c;obtain⟨l,j,m⟩ :=iT hz;refine⟨.tuple #[l,.bool false],?_,by simp only [VR];exact⟨_,rfl,VRs.cons (m E) (VRs.cons (by simp [VR]) (VRs.nil E))⟩⟩;cases d<;>first|exact absurd rfl (hd _) |simp [Instr.typeAssert,aB i,f,j]
        ·cases c
   ·cases c
theorem aPo (r:Rel E h w.heap){a:Array TypeId}{ty t:TypeId}{x v:AV}{g:Value}(f:a[0]?=some t)(b:bAG P h t x=some v)(e:VR E x g) :
  ∃cv,(Builtin.len_ a ty #[g]).run P w= .ok cv w∧VR E v cv:=by
 unfold bAG at b;split at b
 · rename_i d;cases b;simp only [VR]at e;subst e;exact⟨_,by simp [Builtin.len_,f,aB d,nB];rfl,by simp [VR,goInt]⟩
 · rename_i d;cases b;exact⟨_,by simp [Builtin.len_,f,aB d];rfl,by simp [VR,goInt]⟩
 · rename_i d;cases b;simp only [VR]at e;obtain⟨L,k,o,_,rfl,_⟩ :=e;exact⟨_,by simp [Builtin.len_,f,aB d];rfl,by simp [VR,goInt]⟩
 · rename_i d;cases b;simp only [VR]at e;subst e;exact⟨_,by simp [Builtin.len_,f,aB d];rfl,by simp [VR,goInt]⟩
 · rename_i d;cases b;simp only [VR]at e;subst e;exact⟨_,by simp [Builtin.len_,f,aB d];rfl,by simp [VR,goInt]⟩
 · rename_i d;split at b
   · rename_i m q c hm;cases b;simp only [VR]at e;obtain⟨L,hE,rfl⟩ :=e;obtain⟨p,i,j,n,l⟩ :=r.obj _ _ hm;rw [hE]at i;cases i;have:=l.length;refine⟨.int .i64 j.size,by simp [Builtin.len_,f,aB d,jR n,goInt],?_⟩;simp only [VR,Array.length_toList]at this ⊢;rw [this]
   ·cases b
 ·cases b
theorem aPp {a:Array TypeId}{ty t:TypeId}{x v:AV}{e:Value}(f:a[0]?=some t)(b:bFW P t x=some v)(c:VR E x e) :
  ∃cv,(Builtin.cap_ a ty #[e]).run P w= .ok cv w∧VR E v cv:=by
 unfold bFW at b;split at b
 · rename_i d;cases b;simp only [VR]at c;obtain⟨L,g,i,_,rfl,_,_,h,_⟩ :=c;exact⟨_,by simp [Builtin.cap_,f,aB d];rfl,by simp [VR,goInt,h]⟩
 · rename_i d;cases b;simp only [VR]at c;subst c;exact⟨_,by simp [Builtin.cap_,f,aB d];rfl,by simp [VR,goInt]⟩
 ·cases b
theorem aFG (r:Rel E h w.heap){b:Builtin}{c:Array TypeId}{ty:TypeId}{consts:Array Bool}{j:List AV}{cargs:List Value}{o:AOut}(d:iR P h b c j=some o)(l:VRs E j cargs) :
  Out P E h w ((builtin b c ty consts ⟨cargs⟩).run P w) o∧ ((b= .len∨b= .cap∨b= .max∨b= .min) →aTR P E h w ((builtin b c ty consts ⟨cargs⟩).run P w) o) :=by
 unfold iR at d;split at d
 · rename_i x;obtain⟨z,y,rfl,g,f⟩ :=l.cons_inv;rw [f.nil_inv];split at d
   · rename_i t B;split at d
     · rename_i v m;cases d;obtain⟨cv,q,n⟩ :=aPo (ty:=ty) r B m g;exact aV r q n
     ·cases d
   ·cases d
 · rename_i x;obtain⟨z,y,rfl,g,f⟩ :=l.cons_inv;rw [f.nil_inv];split at d
   · rename_i t B;split at d
     · rename_i v m;cases d;obtain⟨cv,q,n⟩ :=aPp (ty:=ty) (w:=w) B m g;exact aV r q n
     ·cases d
   ·cases d
 · rename_i s x;obtain⟨A,y,rfl,i,f⟩ :=l.cons_inv;obtain⟨z,p,rfl,g,e⟩ :=f.cons_inv;rw [e.nil_inv];split at d
   · rename_i v I m;cases d;obtain⟨cv,J,H,q,n,C,G⟩ :=aappend_sound (ty:=ty) r m i g;exact nq (by simp) (nX q n C G)
   ·cases d
 · rename_i k a D b;cases d;obtain⟨A,y,rfl,i,f⟩ :=l.cons_inv;obtain⟨z,p,rfl,g,e⟩ :=f.cons_inv;rw [e.nil_inv];simp only [VR]at i g;subst i g;exact aV r (cv:=.int k (if b>a then b else a)) (by simp [Builtin.max_,Builtin.max2]) (by simp [VR])
 · rename_i k a D b;cases d;obtain⟨A,y,rfl,i,f⟩ :=l.cons_inv;obtain⟨z,p,rfl,g,e⟩ :=f.cons_inv;rw [e.nil_inv];simp only [VR]at i g;subst i g;exact aV r (cv:=.int k (if b<a then b else a)) (by simp [Builtin.min_,Builtin.min2]) (by simp [VR])
 · rename_i t v;cases d;obtain⟨A,y,rfl,i,f⟩ :=l.cons_inv;rw [f.nil_inv];simp only [VR]at i;obtain⟨u,rfl,F⟩ :=i;exact nq (by simp) ⟨.iface t u,by simp [builtin,Instr.panic],by simp only [VR];exact⟨u,rfl,F⟩⟩
 · cases d;rw [l.nil_inv];exact nq (by simp) (by simp [Out,builtin])
 ·cases d
theorem lP {S:Operand→Prop}(hρ:Reads E tm ρ S){x:Option Operand}{a:Option AV}(hx:∀y,x=some y→S y)(h0:pY tm x=some a) :OVR E a (x.map ρ) :=by
 unfold pY at h0;split at h0
 ·cases h0;trivial
 · split at h0
   ·rename_i v hv;cases h0;exact hρ _ (hx _ rfl) _ hv
   ·cases h0
theorem aMr (r:Rel E h w.heap){c:Call}(hρ:Reads E tm ρ (· ∈c.operands)){ty:TypeId}{o:AOut}(h0:wM P h tm c=some o) :
  Out P E h w ((do let d ←resolve ρ c ty;invoke d.target d.args:Sem Next).run P w) o∧ ((∃b,c.callee= .builtin b∧ (b= .len∨b= .cap∨b= .max∨b= .min)) →aTR P E h w ((do let d ←resolve ρ c ty;invoke d.target d.args:Sem Next).run P w) o) :=by
 unfold wM at h0;split at h0
 ·cases h0
 · rename_i args hargs;have ha:=hρ.list (fun x hx=>by simp only [Call.operands,Array.mem_append];exact .inr (by simpa using hx)) hargs;have hm:c.args.map ρ= ⟨c.args.toList.map ρ⟩ :=by apply Array.ext';simp
   split at h0
   · rename_i f hf;split at h0
     · rename_i fv hfv;refine nq (fun⟨b,hb,_⟩ =>by rw [hf]at hb;cases hb) ?_;obtain⟨d,k1,k2⟩ :=aBA r h0 (hρ _ (by simp [Call.operands,hf]) _ hfv) ha;simp only [resolve,hf,hm,Sem.run_bind,k1,Result.andThen_ok];exact k2
     ·cases h0
   · rename_i rc name hf;split at h0
     · rename_i rv hrv;refine nq (fun⟨b,hb,_⟩ =>by rw [hf]at hb;cases hb) ?_;obtain⟨f,aS,cas,rfl,k1,k2⟩ :=aAz (w:=w) h0 (hρ _ (by simp [Call.operands,hf]) _ hrv) ha;refine⟨cas,?_,k1⟩;have e0: (#[ρ rc] ++ ⟨c.args.toList.map ρ⟩ :Array Value)[0]?=some (ρ rc) :=by simp
       have e1: (#[ρ rc] ++ ⟨c.args.toList.map ρ⟩ :Array Value).extract 1 (#[ρ rc] ++ ⟨c.args.toList.map ρ⟩ :Array Value).size= ⟨c.args.toList.map ρ⟩ :=by
        apply Array.ext';simp [aHY]
       simp only [resolve,hf,hm,Sem.run_bind,Sem.run_pure,Result.andThen_ok,invoke,e0,e1,k2]
     ·cases h0
   · rename_i b hf;simp only [resolve,hf,hm,Sem.run_bind,Sem.run_pure,Result.andThen_ok,invoke];have:=aFG (ty:=ty) (consts:=c.args.map fun| .const _=>true|_=>false) r h0 ha;exact⟨this.1,fun⟨b',hb,hq⟩ =>this.2 (by cases hb;exact hq)⟩
theorem ERs.filter {E:Emb}(p:Nat→Bool) :∀ {aS:List (AV×AV×Nat)} {us:List MapEntry},ERs E aS us→ERs E (aS.filter fun e=>p e.2.2) (us.filter fun u=>p u.born)
 | [],_,r=>by simp only [ERs]at r;subst r;simp [ERs]
 | a::aS,_,r=>by
  simp only [ERs]at r;obtain⟨u,us',rfl,h2,h3,h4,h5⟩ :=r;have ih:=ERs.filter p h5;simp only [List.filter_cons,h4];split
  ·simp only [ERs];exact⟨u,_,rfl,h2,h3,h4,ih⟩
  ·exact ih
theorem ERs.append {E:Emb}:∀ {aS bs:List (AV×AV×Nat)} {us vs:List MapEntry},ERs E aS us→ERs E bs vs→ERs E (aS++bs) (us++vs)
 | [],_,_,_,r,k=>by simp only [ERs]at r;subst r;exact k
 | a::aS,_,_,_,r,k=>by
  simp only [ERs]at r;obtain⟨u,us',rfl,h2,h3,h4,h5⟩ :=r;simp only [sT,ERs];exact⟨u,_,rfl,h2,h3,h4,h5.append k⟩
theorem ERs.len {E:Emb}:∀ {aS:List (AV×AV×Nat)} {us:List MapEntry},ERs E aS us→aS.length=us.length
 | [],_,r=>by simp only [ERs]at r;subst r;rfl
 | a::aS,_,r=>by
  simp only [ERs]at r;obtain⟨u,us',rfl,h2,h3,h4,h5⟩ :=r;simp [h5.len]
theorem ERs.get {E:Emb}:∀ {aS:List (AV×AV×Nat)} {us:List MapEntry},ERs E aS us→∀ (i:Nat) (u:MapEntry),us[i]?=some u→∃a,aS[i]?=some a∧VR E a.1 u.key∧VR E a.2.1 u.val∧u.born=a.2.2
 | [],_,r,i,u,e=>by simp only [ERs]at r;subst r;simp at e
 | a::aS,_,r,i,u,e=>by
  simp only [ERs]at r;obtain⟨u',us',rfl,h2,h3,h4,h5⟩ :=r;cases i with
  |zero=>simp at e;subst e;exact⟨a,rfl,h2,h3,h4⟩
  |succ i=>simp at e;obtain⟨b,g1,g2⟩ :=h5.get i u e;exact⟨b,by simpa using g1,g2⟩
theorem ERs.all {E:Emb}(p:Nat→Bool) :∀ {aS:List (AV×AV×Nat)} {us:List MapEntry},ERs E aS us→ (aS.all fun e=>p e.2.2) =us.all fun u=>p u.born
 | [],_,r=>by simp only [ERs]at r;subst r;rfl
 | a::aS,_,r=>by
  simp only [ERs]at r;obtain⟨u,us',rfl,h2,h3,h4,h5⟩ :=r;simp only [List.all_cons,h4,ERs.all p h5]
theorem aBC {r:Nat}{s:ByteArray}{p:Nat}(hr:w.heap[r]?=some (.stringIter s p)) : (getObj r).run P w= .ok (.stringIter s p) w:=by
 simp [getObj,Sem.run,hr]
theorem aJP {l n pos c d:Nat}(h0:aPh l n pos=some (c,d)) :Utf8.decode (iG l n) pos= (c,d) ∧pos<l:=by
 unfold aPh at h0;rw [dK]at h0;by_cases hp:pos<l
 · simp only [hp,decide_true,cond]at h0;rw [dK]at h0;by_cases hc:Nat.mod (Nat.div n (Nat.pow 256 pos)) 256<128
   · simp only [hc,decide_true]at h0;cases h0;refine⟨?_,hp⟩;have hc':n / 256 ^ pos % 256<128:=hc;have hg: ((iG l n).get! pos).toNat=n / 256 ^ pos % 256:=by
      have:=kB l n pos hp;simp only [iG,ByteArray.get!];have h2: (⟨aP l n⟩ :Array UInt8)[pos]! =UInt8.ofNat (n / 256 ^ pos % 256) :=by
       rw [Array.getElem!_eq_getD,aAR,show(⟨aP l n⟩ :Array UInt8) = (aP l n).toArray from rfl,List.getElem?_toArray,this];rfl
      rw [h2];simp
     show Utf8.decode (iG l n) pos= (n / 256 ^ pos % 256,1);have hlt:n / 256 ^ pos % 256<0x80:=hc';simp only [Utf8.decode,Nat.add_zero,hg,hlt,if_true]
   ·simp only [hc,decide_false,Option.some.injEq]at h0;exact⟨h0,hp⟩
 ·simp only [hp,decide_false,cond]at h0;cases h0
set_option maxHeartbeats 4000000 in
theorem aMs (r:Rel E h w.heap){o:Oper}(hρ:Reads E tm ρ (· ∈o.op.operands)){out:AOut}(h0:kA P h tm o=some out) :
  Out P E h w ((execOp ρ o).run P w) out∧ (dG o.op= .pure∨dG o.op= .read→aTR P E h w ((execOp ρ o).run P w) out) :=by
 unfold kA at h0;unfold execOp;split at h0
 all_goals (rename_i hop;try (simp only [hop];rw [hop]at hρ))
 · -- move
   obtain⟨a,ha,rfl⟩ :=eE h0;have hh:=hρ _ (by simp [Op.operands]) _ ha;exact⟨⟨E,w,_,.inl rfl,hh,r,Ext.refl _ _ _⟩,fun _=> ⟨rfl,_,rfl,hh⟩⟩
 · obtain⟨a,ha,rfl⟩ :=eE h0;have hh:=hρ _ (by simp [Op.operands]) _ ha;exact⟨⟨E,w,_,.inl rfl,hh,r,Ext.refl _ _ _⟩,fun _=> ⟨rfl,_,rfl,hh⟩⟩
 · -- pick
   split at h0
   · rename_i hc;obtain⟨a,ha,rfl⟩ :=eE h0;have:=hρ _ (by simp [Op.operands]) _ hc;simp only [VR]at this;have hh:=hρ _ (by simp [Op.operands]) _ ha;exact⟨⟨E,w,_,.inl (by simp [this,asBool]),hh,r,Ext.refl _ _ _⟩,fun _=> ⟨rfl,_,by simp [this,asBool],hh⟩⟩
   · rename_i hc;obtain⟨a,ha,rfl⟩ :=eE h0;have:=hρ _ (by simp [Op.operands]) _ hc;simp only [VR]at this;have hh:=hρ _ (by simp [Op.operands]) _ ha;exact⟨⟨E,w,_,.inl (by simp [this,asBool]),hh,r,Ext.refl _ _ _⟩,fun _=> ⟨rfl,_,by simp [this,asBool],hh⟩⟩
   ·cases h0
 · -- alloc
   rename_i e;split at h0
   · rename_i z hz;cases h0;obtain⟨cz,z1,z2⟩ :=iT hz;obtain⟨q1,q2⟩ :=kZ r (z2 E).cells e;refine nq (by simp [dG]) ?_;exact nX (s:=Instr.alloc e true (.tuple #[])) (cv:=.pointer (some ⟨w.heap.size,0,none⟩)) (by simp [Instr.alloc,z1,newVar,newRow]) (aC0 w h _) q1 q2
   ·cases h0
 · -- box
   rename_i e x;obtain⟨a,ha,h0⟩ :=dQ h0;cases h0;obtain⟨q1,q2⟩ :=kZ r (hρ _ (by simp [Op.operands]) _ ha).cells e;refine nq (by simp [dG]) ?_;exact nX (s:=Instr.box e (ρ x)) (cv:=.pointer (some ⟨w.heap.size,0,none⟩)) (by simp [Instr.box,newVar,newRow]) (aC0 w h _) q1 q2
 · -- build
   rename_i t ps;split at h0
   · rename_i l hl;obtain⟨a,ha,rfl⟩ :=eE h0;obtain⟨g1,g2⟩ :=hρ.parts (fun p hp=>by simp only [Op.operands,List.mem_toArray,zq24];exact⟨p,hp,rfl⟩) hl;obtain⟨cv,k1,k2⟩ :=aJO (w:=w) (qs:=ps.map fun(i,x) => (i,ρ x)) ha (by rw [g1];simp) (by simpa [Function.comp_def]using g2);exact aV r k1 k2
   ·cases h0
 · -- buildSlice
   rename_i t n ps;split at h0
   · rename_i l hl;split at h0
     · rename_i cs s hcs;cases h0;obtain⟨g1,g2⟩ :=hρ.parts (fun p hp=>by simp only [Op.operands,List.mem_toArray,zq24];exact⟨p,hp,rfl⟩) hl;obtain⟨out,e,k1,k2,k3⟩ :=rI r (qs:=ps.map fun(i,x) => (i,ρ x)) hcs (by rw [g1];simp) (by simpa [Function.comp_def]using g2);obtain⟨q1,q2⟩ :=kZ r k1 e;refine nq (by simp [dG]) ?_;exact nX (k3 w) (rG w h _ n n s n true (le_refl _) (le_refl _) (fun _=>rfl) k2) q1 q2
     ·cases h0
   ·cases h0
 · -- load
   rename_i t a;obtain⟨p,hp,h0⟩ :=dQ h0;split at h0
   · rename_i b off;obtain⟨v,hv,rfl⟩ :=eE h0;have:=hρ _ (by simp [Op.operands]) _ hp;simp only [VR]at this;obtain⟨L,hE,hL⟩ :=this;obtain⟨cv,k1,k2⟩ :=aDU r hv hE;exact aV r (by simp [Instr.loadAt,hL,Instr.sureAddr,k1]) k2
   ·cases h0
 · -- store
   rename_i t a x;obtain⟨p,v,hp,hx,h0⟩ :=hR h0;split at h0
   · rename_i b off;obtain⟨h',hv,rfl⟩ :=uG h0;have:=hρ _ (by simp [Op.operands]) _ hp;simp only [VR]at this;obtain⟨L,hE,hL⟩ :=this;obtain⟨w',k1,k2,k3⟩ :=aJI r hv hE (hρ _ (by simp [Op.operands]) _ hx);refine nq (by simp [dG]) ?_;exact xI (by simp [Instr.storeAt,hL,Instr.sureAddr,k1]) k2 k3
   ·cases h0
 · -- nilCheck
   rename_i x;obtain⟨a,ha,h0⟩ :=dQ h0;have hv:=hρ _ (by simp [Op.operands]) _ ha;split at h0
   ·cases h0
   ·cases h0
   ·cases h0
   ·cases h0
   · rename_i name t v;split at h0
     · rename_i f hm;cases h0;simp only [VR]at hv;obtain⟨u,hu,c,rfl,hc⟩ :=hv;obtain⟨k,hk⟩ :=aIv P;have hh:VR E (.meth name (.iface t v)) (.func (.method name) #[.iface t c] #[]) :=by simp only [VR];exact⟨_,rfl,c,rfl,hc⟩
       exact⟨⟨E,w,.func (.method name) #[.iface t c] #[],.inl (by simp [hu,hk,aBz hm]),hh,r,Ext.refl _ _ _⟩,fun _=> ⟨rfl,_,by simp [hu,hk,aBz hm],hh⟩⟩
     ·cases h0
   ·cases h0
   · rename_i v h1 h2 h3 h6 h4 h5;cases h0;have hr:∀A B,(A=Result.ok (Next.value (ρ x)) w→B) →A=Result.ok (Next.value (ρ x)) w→B:=fun _ _ f h=>f h;refine hr _ _ (fun e=> ⟨⟨E,w,ρ x,.inl e,hv,r,Ext.refl _ _ _⟩,fun _=> ⟨rfl,_,e,hv⟩⟩) ?_;cases a<;>simp only [VR]at hv
     case nilp=>exact absurd rfl h1
     case nili=>exact absurd rfl h2
     case nilf=>exact absurd rfl h3
     case meth n rc=>exact absurd rfl (h5 n rc)
     case val u=>exact absurd rfl (h6 u)
     case ilst=>obtain⟨vs,_,hv⟩ :=hv;rcases hv.2 with⟨_,_,_,hL,_⟩ | ⟨_,_,_,_,hL,_⟩ <;> (rw [hL];rfl)
     case iptr=>obtain⟨us,_,_,_,_,hL,_⟩ :=hv;rw [hL];rfl
     case gl=>rcases hv with⟨_,_,hL⟩ | ⟨_,_,_,_,hL,_⟩ <;> (rw [hL];rfl)
     all_goals (first
      | (rw [hv];rfl)
      | (obtain⟨L,_,hL⟩ :=hv;rw [hL];rfl)
      | (obtain⟨L,off,cap,_,hL,_⟩ :=hv;rw [hL];rfl)
      | (obtain⟨a,b,hL,_⟩ :=hv;rw [hL];rfl)
      | (obtain⟨u,hL,_⟩ :=hv;rw [hL];rfl))
 · -- binOp
   rename_i op t x y yt;obtain⟨a,b,ha,hb,h0⟩ :=hR h0;obtain⟨v,hv,rfl⟩ :=eE h0;obtain⟨cv,k1,k2⟩ :=aPl (w:=w) x y hv (hρ _ (by simp [Op.operands]) _ ha) (hρ _ (by simp [Op.operands]) _ hb);exact aV r k1 k2
 · -- unOp
   obtain⟨a,ha,h0⟩ :=dQ h0;obtain⟨v,hv,rfl⟩ :=eE h0;obtain⟨cv,k1,k2⟩ :=aTS (P:=P) (w:=w) hv (hρ _ (by simp [Op.operands]) _ ha);exact aV r k1 k2
 · -- convert
   obtain⟨a,ha,h0⟩ :=dQ h0;obtain⟨v,hv,rfl⟩ :=eE h0;obtain⟨cv,k1,k2⟩ :=aFz r hv (hρ _ (by simp [Op.operands]) _ ha);exact aV r k1 k2
 · -- makeInterface
   rename_i t x;obtain⟨a,ha,h0⟩ :=dQ h0;split at h0
   ·cases h0
   · rename_i d hni hu;cases h0;have hd:∀ms,d≠ .interface ms:=fun ms e=>hni ms (by rw [e]);refine aV r (cv:=.iface t (ρ x)) ?_ (by simp only [VR];exact⟨_,rfl,hρ _ (by simp [Op.operands]) _ ha⟩);cases d<;>first|exact absurd rfl (hd _) |simp [Instr.makeInterface,aB hu]
   ·cases h0
 · -- makeFunc
   rename_i f first cap
   split at h0
   · rename_i fs cs hf hc;cases h0;refine aV r (cv:=.func (.func f) (first.map ρ) (cap.map ρ)) (by simp [Instr.makeFunc]) ?_;simp only [VR];exact⟨first.toList.map ρ,cap.toList.map ρ,by congr 1<;> (apply Array.ext';simp),hρ.list (fun x hx=>by simp only [Op.operands,Array.mem_append];exact .inl (by simpa using hx)) hf,hρ.list (fun x hx=>by simp only [Op.operands,Array.mem_append];exact .inr (by simpa using hx)) hc⟩
   ·cases h0
 · rename_i name first cap
   split at h0
   · rename_i rc hf;cases hc:cap.isEmpty with
     |false=>rw [hc]at h0;cases h0
     | true=>
      rw [hc]at h0;simp only [cond]at h0;cases h0;obtain⟨u,us,hu1,hu2,hu3⟩ := (hρ.list (fun x hx=>by simp only [Op.operands,Array.mem_append];exact .inl (by simpa using hx)) hf).cons_inv;rw [hu3.nil_inv]at hu1;have e1:first.map ρ= #[u] :=by apply Array.ext';simpa using hu1
      have e2:cap.map ρ= #[] :=by have:=Array.isEmpty_iff.1 hc;subst this;simp
      exact aV r (cv:=.func (.method name) #[u] #[]) (by simp [Instr.makeFunc,e1,e2]) (by simp only [VR];exact⟨u,rfl,hu2⟩)
   ·cases h0
 · rename_i t path f pr first cap
   split at h0
   · rename_i rc hp hf;cases hc:cap.isEmpty with
     |false=>rw [hc]at h0;cases h0
     | true=>
      rw [hc]at h0;simp only [cond]at h0;cases h0;obtain⟨u,us,hu1,hu2,hu3⟩ := (hρ.list (fun x hx=>by simp only [Op.operands,Array.mem_append];exact .inl (by simpa using hx)) hf).cons_inv;rw [hu3.nil_inv]at hu1;have e1:first.map ρ= #[u] :=by apply Array.ext';simpa using hu1
      have e2:cap.map ρ= #[] :=by have:=Array.isEmpty_iff.1 hc;subst this;simp
      have e3:path= #[] :=by apply Array.ext';simpa using hp
      exact aV r (cv:=.func (.via t #[] f pr) #[u] #[]) (by simp [Instr.makeFunc,e1,e2,e3]) (by simp only [VR];exact⟨u,rfl,hu2⟩)
   ·cases h0
 · -- makeMap
   cases h0;obtain⟨q1,q2⟩ :=r.new (.map [] 0) (.map #[] 0) 0 (fun _ _ _ _ hH=> ⟨#[],hH,by simp [ERs]⟩);refine nq (by simp [dG]) ?_;refine nX (s:=Instr.makeMap _ (Option.map ρ none)) (cv:=.map (some w.heap.size)) (by simp [Instr.makeMap]) ?_ q1 q2;simp only [VR];exact⟨_,Emb.put_same _ _ _,rfl⟩
 · -- makeSlice
   rename_i t l c;obtain⟨a,b,ha,hb,h0⟩ :=hR h0;split at h0
   · rename_i k1 n k2 m;split at h0
     · rename_i e hu;split at h0
       · rename_i s z inf hs hz hinf;split at h0
         · rename_i hnm;cases hc: (ble s 40&&ble 1 s&&beq z.cells.length s&&ble inf.bytes 1000)with
           |false=>rw [hc]at h0;cases h0
           | true=>
            rw [hc]at h0;simp only [cond]at h0;cases h0;simp only [jG,bQ,cF,decide_eq_true_eq]at hc;obtain⟨⟨⟨hs40,hs1⟩,hzl⟩,hby⟩ :=hc;have e1:=hρ _ (by simp [Op.operands]) _ ha;have e2:=hρ _ (by simp [Op.operands]) _ hb;simp only [VR]at e1 e2;obtain⟨cz,z1,z2⟩ :=iT hz;have hzs:cz.cells.size=s:=by have:= (z2 E).cells.length;simp only [Array.length_toList]at this;omega
            obtain⟨nn,rfl⟩ :=Int.eq_ofNat_of_zero_le hnm.1;obtain⟨mm,rfl⟩ :=Int.eq_ofNat_of_zero_le (show 0≤m by omega);have hl1:IntKind.i64.wrap (nn:Int) =nn:=wrap_small (by omega);have hl2:IntKind.i64.wrap (mm:Int) =mm:=wrap_small (by omega);have zr:=aC2 (z2 E).cells mm (by omega);rw [hzs]at zr;obtain⟨q1,q2⟩ :=kZ r zr e;simp only [oM];have hbig:¬ ((inf.bytes:Int) * (mm:Int) >2 ^ 48) :=by
             have h3:inf.bytes*mm≤1000*100000:=mul_le_mul hby (by omega);rw [←Int.natCast_mul];generalize inf.bytes*mm=q at h3;omega
            have hcond:¬ ((((mm:Int) <0||decide ((inf.bytes:Int) * (mm:Int) >2 ^ 48)) =true∨ (nn:Int) <0) ∨ (nn:Int) > (mm:Int)) :=by
             simp only [hbig,decide_false,Bool.or_false,decide_eq_true_eq];omega
            refine nq (by simp [dG]) ?_;refine nX (cv:=.slice (some ⟨w.heap.size,0,none⟩) nn mm) ?_ (rG w h _ nn mm s mm true (by omega) (le_refl _) (fun _=>rfl) (by simp)) q1 q2;have hne1:¬ ((mm:Int) <0) :=by omega
            have hne2:¬ ((nn:Int) <0) :=by omega
            have hne3:¬ ((nn:Int) > (mm:Int)) :=by omega
            simp only [Instr.makeSlice,Sem.run_bind,aB hu,Result.andThen_ok,e1,e2,aC1,dE hinf,hl1,hl2];rw [if_neg (by simp only [Bool.or_eq_true,decide_eq_true_eq,gt_iff_lt];omega)];simp only [Sem.run_bind,run_askRoom,Result.andThen_ok,cD hs,oM];have fin:∀z':Array Value,z'=cz.cells∨mm*s=0→ (⟨((Array.range (mm*s)).map (fun i=>cz.cells[i % s]!)).toList⟩ :Array Value) = (Array.range (mm*s)).map (fun x=>z'[x % z'.size]!) :=by
             intro z' hz';rcases hz' with rfl|h0
             ·rw [hzs]
             · have e0:Array.range 0= #[] :=rfl;rw [h0,e0];simp
            by_cases h0:mm*s=0
            · rw [if_pos h0,fin #[] (.inr h0)];simp [newRow]
            · rw [if_neg h0,fin cz.cells (.inl rfl)];simp [newRow,z1]
         ·cases h0
       ·cases h0
     ·cases h0
   ·cases h0
 · -- slice
   rename_i t x lo hi mx;obtain⟨a,ha,h0⟩ :=dQ h0;split at h0
   · rename_i l1 l2 l3 e1 e2 e3;split at h0
     · rename_i b1 b2 b3 d1 d2 d3;obtain⟨v,hv,rfl⟩ :=eE h0;obtain⟨cv,k1,k2⟩ :=aJN (w:=w) hv (hρ _ (by simp [Op.operands]) _ ha) (sX d1 (lP hρ (fun y hy=>by subst hy;simp [Op.operands]) e1)) (sX d2 (lP hρ (fun y hy=>by subst hy;simp [Op.operands]) e2)) (sX d3 (lP hρ (fun y hy=>by subst hy;simp [Op.operands]) e3));exact aV r k1 k2
     ·cases h0
   ·cases h0
 · -- fieldAddr
   rename_i t x f;obtain⟨a,ha,h0⟩ :=dQ h0;split at h0
   · rename_i b off;split at h0
     · rename_i o' ho;cases h0;have:=hρ _ (by simp [Op.operands]) _ ha;simp only [VR]at this;obtain⟨L,hE,hL⟩ :=this;exact aV r (cv:=.pointer (some ⟨L.blk,L.sh+off+o',none⟩)) (by rw [hL];exact uH ho _ _) (by simp only [VR];exact⟨L,hE,by rw [add_assoc]⟩)
     ·cases h0
   ·cases h0
 · -- field
   rename_i t x f;obtain⟨a,ha,h0⟩ :=dQ h0;split at h0
   · rename_i cs;have hv:=hρ _ (by simp [Op.operands]) _ ha;simp only [VR]at hv;obtain⟨us,hL,hus⟩ :=hv;split at h0
     · rename_i fs hu;split at h0
       · rename_i fd hfd;split at h0
         · rename_i d s hd hs;have hp:∃v,(bif isAggD d then some (agg ((cs.drop fd.offset).take s))else cs[fd.offset]?) =some v∧out= .val v h:=by
            cases hg:isAggD d with
            |true=>rw [hg]at h0;simp only [cond]at h0;cases h0;exact⟨_,rfl,rfl⟩
            |false=>rw [hg]at h0;simp only [cond]at h0;obtain⟨v,hv,rfl⟩ :=eE h0;exact⟨v,hv,rfl⟩
           obtain⟨v,hv,rfl⟩ :=hp;obtain⟨cv,k1,k2⟩ :=aFF (w:=w) (cs:= ⟨us⟩) hd hs hus hv;exact aV r (by simp [Instr.field,aB hu,hfd,hL,asAgg,k1]) k2
         ·cases h0
       ·cases h0
     ·cases h0
   ·cases h0
 · -- indexAddr
   rename_i t x ix;obtain⟨a,b,ha,hb,h0⟩ :=hR h0;split at h0
   · rename_i e b' off len cap esz ex hu;split at h0
     · rename_i k s hk hs;cases hc:beq s esz with
       |false=>rw [hc]at h0;cases h0
       | true=>
        rw [hc]at h0;simp only [cond]at h0;cases h0;have:=iF hc;subst this;obtain⟨kk,hci,hlt⟩ :=lO hk (hρ _ (by simp [Op.operands]) _ hb);have hv:=hρ _ (by simp [Op.operands]) _ ha;simp only [VR]at hv;obtain⟨L,off',cap',hE,hL,g1,g2,g3,g4,g5⟩ :=hv;have hoff:=g4 (by omega);subst hoff;refine aV r (cv:=.pointer (some ⟨L.blk,L.sh+off+k*s,none⟩)) ?_ (by simp only [VR];exact⟨L,hE,by rw [add_assoc]⟩);simp [Instr.indexAt,hci,asIntOf,hL,aB hu,Nat.not_le.2 hlt,cD hs,gC]
     ·cases h0
   · rename_i len e b' off hu;split at h0
     · rename_i k s hk hs;cases h0;obtain⟨kk,hci,hlt⟩ :=lO hk (hρ _ (by simp [Op.operands]) _ hb);have hv:=hρ _ (by simp [Op.operands]) _ ha;simp only [VR]at hv;obtain⟨L,hE,hL⟩ :=hv;refine aV r (cv:=.pointer (some ⟨L.blk,L.sh+off+k*s,none⟩)) ?_ (by simp only [VR];exact⟨L,hE,by rw [add_assoc]⟩);simp [Instr.indexAt,hci,asIntOf,hL,aB hu,Nat.not_le.2 hlt,cD hs,gC,Instr.sureAddr]
     ·cases h0
   ·cases h0
 · -- index
   rename_i t x ix;obtain⟨a,b,ha,hb,h0⟩ :=hR h0;split at h0
   · rename_i l n hu;split at h0
     · rename_i k hk;cases h0;obtain⟨kk,hci,hlt⟩ :=lO hk (hρ _ (by simp [Op.operands]) _ hb);have hv:=hρ _ (by simp [Op.operands]) _ ha;simp only [VR]at hv;refine aV r (cv:=.int .u8 ((n / 256 ^ k % 256:Nat) :Int)) ?_ (by simp only [VR];rfl);have hg: (iG l n)[k]?=some (UInt8.ofNat (n / 256 ^ k % 256)) :=by
        have h1:=kB l n k hlt;have h2:k< (iG l n).size:=by rw [nB];exact hlt
        rw [getElem?_pos (iG l n) k h2];congr 1;have h3:= (zq0.1 h1);obtain⟨h4,h5⟩ :=h3;rw [←h5];rfl
       simp [Instr.index,hci,asIntOf,hv,aB hu,hg]
     ·cases h0
   · rename_i len e cs hu;have hv:=hρ _ (by simp [Op.operands]) _ ha;simp only [VR]at hv;obtain⟨us,hL,hus⟩ :=hv;split at h0
     · rename_i k d s hk hd hs;obtain⟨kk,hci,hlt⟩ :=lO hk (hρ _ (by simp [Op.operands]) _ hb);have hp:∃v,(bif isAggD d then some (agg ((cs.drop (k*s)).take s))else cs[k*s]?) =some v∧out= .val v h:=by
        cases hg:isAggD d with
        |true=>rw [hg]at h0;simp only [cond]at h0;cases h0;exact⟨_,rfl,rfl⟩
        |false=>rw [hg]at h0;simp only [cond]at h0;obtain⟨v,hv,rfl⟩ :=eE h0;exact⟨v,hv,rfl⟩
       obtain⟨v,hv,rfl⟩ :=hp;obtain⟨cv,k1,k2⟩ :=aFF (w:=w) (cs:= ⟨us⟩) hd hs hus hv;exact aV r (by simp [Instr.index,hci,asIntOf,hL,aB hu,Nat.not_le.2 hlt,cD hs,k1]) k2
     ·cases h0
   ·cases h0
 · -- lookup
   obtain⟨a,b,ha,hb,h0⟩ :=hR h0;obtain⟨v,hv,rfl⟩ :=eE h0;obtain⟨cv,k1,k2⟩ :=aH3 r hv (hρ _ (by simp [Op.operands]) _ ha) (hρ _ (by simp [Op.operands]) _ hb);exact aV r k1 k2
 · -- mapUpdate
   rename_i t m k x;obtain⟨a,b,ha,hb,h0⟩ :=hR h0;obtain⟨c,hc,h0⟩ :=dQ h0;obtain⟨h',hv,rfl⟩ :=uG h0;obtain⟨w',k1,k2,k3⟩ :=sY r hv (hρ _ (by simp [Op.operands]) _ ha) (hρ _ (by simp [Op.operands]) _ hb) (hρ _ (by simp [Op.operands]) _ hc);refine nq (by simp [dG]) ?_;exact xI k1 k2 k3
 · rename_i t m k x;obtain⟨a,b,ha,hb,h0⟩ :=hR h0;obtain⟨c,hc,h0⟩ :=dQ h0;obtain⟨h',hv,rfl⟩ :=uG h0;obtain⟨w',k1,k2,k3⟩ :=sY r hv (hρ _ (by simp [Op.operands]) _ ha) (hρ _ (by simp [Op.operands]) _ hb) (hρ _ (by simp [Op.operands]) _ hc);refine nq (by simp [dG]) ?_;exact xI k1 k2 k3
 · -- mapEntry
   obtain⟨a,b,ha,hb,h0⟩ :=hR h0;obtain⟨v,h',hv,rfl⟩ :=aIu h0;obtain⟨cv,w',k1,k2,k3,k4⟩ :=aEG r hv (hρ _ (by simp [Op.operands]) _ ha) (hρ _ (by simp [Op.operands]) _ hb);refine nq (by simp [dG]) ?_;exact nX k1 k2 k3 k4
 · -- entryStore
   rename_i t m s x;obtain⟨a,b,ha,hb,h0⟩ :=hR h0;obtain⟨c,hc,h0⟩ :=dQ h0;obtain⟨h',hv,rfl⟩ :=uG h0;obtain⟨w',k1,k2,k3⟩ :=aBy r t hv (hρ _ (by simp [Op.operands]) _ ha) (hρ _ (by simp [Op.operands]) _ hb) (hρ _ (by simp [Op.operands]) _ hc);refine nq (by simp [dG]) ?_;exact xI k1 k2 k3
 · -- range
   rename_i t x;obtain⟨a,ha,h0⟩ :=dQ h0;split at h0
   · rename_i l n hu;cases h0;have hv:=hρ _ (by simp [Op.operands]) _ ha;simp only [VR]at hv;obtain⟨q1,q2⟩ :=r.new (.siter l n 0) (.stringIter (iG l n) 0) 0 (fun _ _ _ _ hH=> ⟨hH,rfl⟩);refine nq (by simp [dG]) ?_;refine nX (cv:=.pointer (some ⟨w.heap.size,0,none⟩)) (by simp [Instr.range,aB hu,hv]) ?_ q1 q2;exact aC0 w h 0
   ·cases h0
 · -- next
   rename_i it;obtain⟨a,ha,h0⟩ :=dQ h0;split at h0
   · rename_i rr;have hv:=hρ _ (by simp [Op.operands]) _ ha;simp only [VR]at hv;obtain⟨L,hE,hL⟩ :=hv;split at h0
     · rename_i l n pos hm;obtain⟨L',g1,g2,g3⟩ :=r.obj _ _ hm;rw [hE]at g1;cases g1;have hz:L.sh+0=0:=by omega
       rw [hz]at hL;cases hp:Nat.blt pos l with
       | true=>
        rw [hp]at h0;simp only [cond]at h0;split at h0
        · rename_i c d hc;cases h0;obtain⟨d1,d2⟩ :=aJP hc;have q:=r.setObj (o':=.siter l n (Nat.add pos d)) (.stringIter (iG l n) (pos+d)) hm hE rfl rfl (fun H' hH=> ⟨hH,g3⟩);refine nq (by simp [dG]) ?_;refine nX (cv:=.tuple #[.bool true,.int .i64 pos,.int .i32 c]) (w':=cI w L.blk (.stringIter (iG l n) (pos+d))) ?_ ?_ q.1 q.2
          · have hs:pos< (iG l n).size:=by rw [nB];exact d2
            have:=uF (P:=P) (ob':=.stringIter (iG l n) (pos+d)) g2 (fun _ _ _ e=>by cases e);simp [Instr.next,hL,aBC g2,hs,d1,this,goInt]
          · simp only [VR];exact⟨_,rfl,VRs.cons (by simp [VR]) (VRs.cons (by simp [VR]) (VRs.cons (by simp [VR]) (VRs.nil E)))⟩
        ·cases h0
       | false=>
        rw [hp]at h0;simp only [cond]at h0;cases h0;have hs:¬pos< (iG l n).size:=by rw [nB];intro e;rw [dK]at hp;simp [e]at hp
        refine aV r (cv:=.tuple #[.bool false]) ?_ (by simp only [VR];exact⟨_,rfl,VRs.cons (by simp [VR]) (VRs.nil E)⟩);simp [Instr.next,hL,aBC g2,hs]
     ·cases h0
   ·cases h0
 · -- typeAssert
   obtain⟨a,ha,h0⟩ :=dQ h0;obtain⟨v,hv,rfl⟩ :=eE h0;obtain⟨cv,k1,k2⟩ :=aBB (w:=w) hv (hρ _ (by simp [Op.operands]) _ ha);exact aV r k1 k2
 · -- extract
   rename_i x i;obtain⟨a,ha,h0⟩ :=dQ h0;split at h0
   · rename_i vs;obtain⟨v,hv,rfl⟩ :=eE h0;have hx:=hρ _ (by simp [Op.operands]) _ ha;simp only [VR]at hx;obtain⟨us,hL,hus⟩ :=hx;obtain⟨cv,k1,k2⟩ :=hus.get _ _ hv;have k1': (⟨us⟩ :Array Value)[i]?=some cv:=by rw [show(⟨us⟩ :Array Value) =us.toArray from rfl,List.getElem?_toArray];exact k1
     exact aV r (by simp only [hL,Instr.extract,k1',Sem.run_pure]) k2
   ·cases h0
 · -- call
   obtain⟨g1,g2⟩ :=aMr (ty:=o.type) r hρ h0;refine⟨g1,fun hk=>g2 ?_⟩;revert hk;rename_i c;simp only [dG];split<;>rename_i hcc<;>simp [hcc]
 · -- defer
   rename_i c;split at h0
   · rename_i args f hargs hf;split at h0
     · rename_i g first cap hg
       cases hc:fG P g with
       |false=>rw [hc]at h0;cases h0
       | true=>
        rw [hc]at h0;simp only [cond]at h0;cases h0;have hv:=hρ _ (by simp [Op.operands,Call.operands,hf]) _ hg;simp only [VR]at hv;obtain⟨a,b,hL,h1,h2⟩ :=hv;have hm:c.args.map ρ= ⟨c.args.toList.map ρ⟩ :=by apply Array.ext';simp
        refine nq (by simp [dG]) ?_;refine⟨{target:=.fn (.func g) ⟨b⟩,args:= ⟨a⟩ ++ ⟨c.args.toList.map ρ⟩},by simp [resolve,hf,hL,hm,Deferred.ofValue],⟨b,a++c.args.toList.map ρ,?_,(h1.append (hρ.list (fun x hx=>by simp only [Op.operands,Call.operands,Array.mem_append];exact .inr (by simpa using hx)) hargs)).append h2⟩⟩;congr 1;apply Array.ext';simp
     ·cases h0
   ·cases h0
 · -- panic
   obtain⟨a,ha,h0⟩ :=dQ h0;split at h0
   · rename_i t v;cases h0;have hv:=hρ _ (by simp [Op.operands]) _ ha;refine nq (by simp [dG]) ?_;refine⟨_,?_,hv⟩;simp only [VR]at hv;obtain⟨u,hL,hu⟩ :=hv;simp [hL,Instr.panic]
   ·cases h0
 ·cases h0
end
section
variable {P :Program} {E:Emb} {h h':Hp} {w w':World}
theorem nE (v:Value)(vs:List Value) :flat (v::vs) =v.cells.toList++flat vs:=rfl
theorem xP (us vs:List Value) :flat (us++vs) =flat us++flat vs:=by simp [flat]
theorem flat_length {e:Nat}:∀ {a:List Value},(∀u∈a,okE e u) → (flat a).length=a.length*e
 | [],_=>by simp [flat]
 | v::a,hk=>by
  rw [nE,wT,flat_length (fun u b=>hk u (eD _ b)),Array.length_toList,(hk v (dT ..)).1,oK,add_mul];omega
theorem pS {e:Nat}:∀ {vs:List Value} (k:Nat),(∀u∈vs,okE e u) →flat (vs.drop k) = (flat vs).drop (k*e)
 | [],k,_=>by simp [flat]
 |v::vs,0,_=>by simp
 | v::vs,k+1,hk=>by
  have a:v.cells.toList.length=e:=by rw [Array.length_toList];exact(hk v (dT ..)).1
  have c: (k+1) *e=e+k*e:=by rw [add_mul];omega
  have d: (v.cells.toList++flat vs).drop e=flat vs:=by rw [List.drop_append_of_le_length (Nat.le_of_eq a.symm),List.drop_of_length_le (Nat.le_of_eq a),qW]
  rw [List.drop_succ_cons,pS k (fun u b=>hk u (eD _ b)),nE,c,←List.drop_drop,d]
theorem sZ {e:Nat}:∀ {a:List Value} (k:Nat),(∀u∈a,okE e u) →flat (a.take k) = (flat a).take (k*e)
 | [],k,_=>by simp [flat]
 |v::a,0,_=>by simp [flat]
 | v::a,k+1,hk=>by
  have d:v.cells.toList.length=e:=by rw [Array.length_toList];exact(hk v (dT ..)).1
  have c: (k+1) *e=e+k*e:=by rw [add_mul];omega
  rw [List.take_succ_cons,nE,sZ k (fun u b=>hk u (eD _ b)),nE,c,List.take_append,aHY (l:=v.cells.toList) (by omega),d,Nat.add_sub_cancel_left]
theorem flat_get {e:Nat}{c:List Value}(hk:∀u∈c,okE e u){i j:Nat}{v:Value}(d:c[i]?=some v)(f:j<e) : (flat c)[i*e+j]?=v.cells[j]?:=by
 have k:flat (c.drop i) = (flat c).drop (i*e) :=pS i hk;have g:c.drop i=v::c.drop (i+1) :=by
  have:= (zq0.1 d);obtain⟨a,b⟩ :=this;rw [List.drop_eq_getElem_cons a,b]
 have h: (flat c)[i*e+j]?= (flat (c.drop i))[j]?:=by rw [k,List.getElem?_drop]
 rw [h,g,nE,iQ (by rw [Array.length_toList,(hk v (iO d)).1];exact f),sU]
theorem aWc {e:Nat}{b:List Value}(hk:∀u∈b,okE e u) :∀c∈flat b,c.oneCell'=true:=fun c hc=>by
 obtain⟨u,d,a⟩ :=List.mem_flatMap.1 hc;exact(hk u d).2 c a
mutual
theorem gR :∀ {E:Emb} {a:AV} {v:Value},keyless a=true→VR E a v→VR E.p a v
 |_,.bool _,_,_,r=>by simpa [VR]using r
 |_,.int _ _,_,_,r=>by simpa [VR]using r
 |_,.str _ _,_,_,r=>by simpa [VR]using r
 |_,.ptr _ _,_,k,_=>by simp [keyless]at k
 |_,.nilp,_,_,r=>by simpa [VR]using r
 |_,.slice _ _ _ _ _ _,_,k,_=>by simp [keyless]at k
 |_,.nils,_,_,r=>by simpa [VR]using r
 |_,.map _,_,k,_=>by simp [keyless]at k
 |_,.nilm,_,_,r=>by simpa [VR]using r
 | _,.func _ fs e,_,k,r=>by
  simp only [keyless,cF]at k;simp only [VR]at r ⊢;obtain⟨a,b,d,c,f⟩ :=r;exact⟨a,b,d,gG k.1 c,gG k.2 f⟩
 |_,.yield _,_,k,_=>by simp [keyless]at k
 | _,.meth _ a,_,k,r=>by
  simp only [keyless]at k;simp only [VR]at r ⊢;obtain⟨u,d,c⟩ :=r;exact⟨u,d,gR k c⟩
 | _,.via _ _ _ a,_,k,r=>by
  simp only [keyless]at k;simp only [VR]at r ⊢;obtain⟨u,d,c⟩ :=r;exact⟨u,d,gR k c⟩
 |_,.nilf,_,_,r=>by simpa [VR]using r
 | _,.iface _ a,_,k,r=>by
  simp only [keyless]at k;simp only [VR]at r ⊢;obtain⟨u,d,c⟩ :=r;exact⟨u,d,gR k c⟩
 |_,.nili,_,_,r=>by simpa [VR]using r
 | _,.agg g,_,k,r=>by
  simp only [keyless]at k;simp only [VR]at r ⊢;obtain⟨u,d,c⟩ :=r;exact⟨u,d,gG k c⟩
 | _,.tup g,_,k,r=>by
  simp only [keyless]at k;simp only [VR]at r ⊢;obtain⟨u,d,c⟩ :=r;exact⟨u,d,gG k c⟩
 |_,.ilst _ h _,_,_,r=>by simp only [VR]at r ⊢;exact r
 |_,.iptr e,_,_,r=>by simp only [VR]at r ⊢;exact r
 |_,.gl _ _ _ _ _,_,k,_=>by simp [keyless]at k
 |_,.ep _ _ _ _,_,k,_=>by simp [keyless]at k
 |_,.val _,_,_,r=>by simpa [VR]using r
theorem gG :∀ {E:Emb} {b:List AV} {c:List Value},AV.keylessL b=true→VRs E b c→VRs E.p b c
 |_,[],_,_,r=>by simpa [VRs]using r
 | _,a::b,_,k,r=>by
  simp only [AV.keylessL,cF]at k;simp only [VRs]at r ⊢;obtain⟨u,f,g,d,e⟩ :=r;exact⟨u,f,g,gR k.1 d,gG k.2 e⟩
end
theorem VR.of_p {a:AV}{v:Value}(r:VR E.p a v) :VR E a v:=r.mono E.p_le
theorem VRs.of_p {a:List AV}{vs:List Value}(r:VRs E.p a vs) :VRs E a vs:=r.mono E.p_le
theorem aDV {t:TypeId}{cs:List AV}{us:List Value}{a:AV}(b:aMi P t cs=some a)(h:VRs E cs us){k o:Nat}{C:Array Value}{e:TypeId}{f:Nat×Nat}(hk:w.heap[k]?=some (.cells C e f))
  (p:∀j,j<us.length→C[o+j]?=us[j]?) :∃cv,(loadVar t ⟨k,o,none⟩).run P w= .ok cv w∧VR E a cv:=by
 unfold aMi at b;split at b
 ·cases b
 · rename_i d hd;cases c:isAggD d with
   | true=>
    rw [c]at b;simp only [cond]at b;split at b
    ·cases b
    · rename_i n r;cases hc:ble n cs.length with
      |false=>rw [hc]at b;cases b
      | true=>
       rw [hc]at b;simp only at b;cases b;have q:=Nat.le_of_ble_eq_true hc;have hl:=h.length;have g: (loadCells ⟨k,o,none⟩ n).run P w= .ok ⟨us.take n⟩ w:=run_loadCells (us.take n) hk (by simp;omega) (fun j i=>by rw [p j (by omega),List.getElem?_take_of_lt i]);exact⟨.agg ⟨us.take n⟩,by simp [loadVar,rF hd,c,cD r,g],by simp only [VR];exact⟨_,rfl,h.take n⟩⟩
   | false=>
    rw [c]at b;simp only [cond]at b;obtain⟨v,g,s⟩ :=h.get _ _ b;have l:= (zq0.1 g).1;have m:=p 0 l;rw [g,Nat.add_zero]at m;exact⟨v,by simp [loadVar,rF hd,c,cell_of hk,m],s⟩
theorem aFH {L:Loc}{e:Nat}{xs:List AV}{C:Array Value}{a:List Value}(d:VRs E xs a)(hk:∀u∈a,okE e u)(hC:∀j,j<a.length*e→C[L.sh+j]?= (flat a)[j]?)
  {i:Nat} {x:AV} (h:xs[i]?=some x) :∃v,a[i]?=some v∧VR E x v∧okE e v∧∀j,j<e→C[L.sh+ (i*e+j)]?=v.cells[j]?:=by
 obtain⟨v,b,g⟩ :=d.get _ _ h;have c:= (zq0.1 b).1;refine⟨v,b,g,hk v (iO b),fun j f=>?_⟩
 rw [hC _ (by have:i*e+e≤a.length*e:=by rw [←succ_mul];exact mul_le_mul_right _ c
              omega),flat_get hk b f]
theorem aBD (g:Bool)(e:Nat) :∀ (n:Nat) (a:List AV),(wN g e n a).length=n
 |0,_=>rfl
 |n+1,a=>by simp [wN,aBD g e n]
theorem xQ (g:Bool){e:Nat}(he:g=false→e=1) :∀ (n:Nat) {i:List AV} {b:List Value},VRs E i b→b.length=n*e→ (∀u∈b,u.oneCell'=true) →
  ∃h,VRs E (wN g e n i) h∧flat h=b∧h.length=n∧∀u∈h,okE e u
 | 0,i,b,j,hl,_=>by
  have:b= [] :=zq35.1 (by omega);subst this;exact⟨[],VRs.nil E,rfl,rfl,fun u f=>by cases f⟩
 | n + 1,i,b,j,hl,m=>by
  have k:e≤b.length:=by rw [hl,add_mul];omega
  obtain⟨h,q,p,o,s⟩ :=xQ g he n (j.drop e) (by rw [List.length_drop,hl,add_mul];omega) (fun u f=>m u (List.mem_of_mem_drop f));cases g with
  | true=>
   refine⟨.agg ⟨b.take e⟩ ::h,VRs.cons (by simp only [cond,VR];exact⟨_,rfl,j.take e⟩) q,?_,by simp [o],?_⟩
   ·rw [nE,p];simp [Value.cells]
   · intro u f;rcases zq7.1 f with rfl|f
     · refine⟨by simp [Value.cells];omega,fun c hc=>?_⟩;simp only [Value.cells]at hc;exact m c (List.mem_of_mem_take hc)
     ·exact s u f
  | false=>
   have t:=he rfl;subst t;cases b with
   |nil=>simp at k
   | cons u b=>
    cases i with
    |nil=>obtain h0:=j.length;simp at h0
    | cons a z=>
     obtain⟨B,v,w,y,A⟩ :=j.cons_inv;cases w;have r:=m u (dT ..);have hc:u.cells.toList= [u] :=by cases u<;>first|rfl| (simp [Value.oneCell']at r)
     refine⟨u::h,VRs.cons (by simpa using y) q,by rw [nE,p,hc];simp,by simp [o],?_⟩;intro x l;rcases zq7.1 l with rfl|l
     ·refine⟨by rw [←Array.length_toList,hc];rfl,fun c d=>by rw [hc]at d;simp at d;subst d;exact r⟩
     ·exact s x l
end
end
end Go.Hb
