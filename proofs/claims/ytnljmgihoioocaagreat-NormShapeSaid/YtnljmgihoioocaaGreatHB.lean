/- A machine on abstract values, its soundness, ways, plain laws. -/
import Derived.Test.YtnljmgihoioocaaGreatHA
import Derived.Lib.Strings
set_option linter.defProp false
set_option linter.unusedVariables false
set_option linter.unusedSimpArgs false
set_option linter.unusedSectionVars false
set_option maxRecDepth 100000
namespace Go.Hb
open Nat (add_assoc add_mul beq beq_eq ble blt le_refl mul_le_mul mul_le_mul_right)
open Option (getD)
noncomputable section
section
variable {P :Program} {E:Emb} {h h':Hp} {w w':World}
theorem qT (l n:Nat) : (iH l n).toList=aQ l n:=by rw [ByteArray.toList_eq];rfl
theorem aBj {a b:ByteArray}(h:a.data.toList=b.data.toList) :a=b:=by
 cases a;cases b;simp at h;simp [h]
theorem aLf (l n l' a:Nat) :iH l n++iH l' a=iH (l+l') (n % 256 ^ l+256 ^ l*a) :=by
 apply aBj;simp [iH,aDY]
theorem aIJ (l n a b:Nat)(h1:a≤b)(h2:b≤l) : (iH l n).extract a b=iH (b-a) (n / 256 ^ a) :=by
 rw [Lib.extract_eq];apply aBj;simp only [iH];rw [aG4,aG5 _ _ _ (by omega)]
theorem aIK {op:BinOp}{l n l' b:Nat}{v:AV}(a:aNV op l n l' b=some v)(t:TypeId) :
  ∃cv,(binOp op t (.string (iH l n)) (.string (iH l' b))).run P w= .ok cv w∧VR E v cv:=by
 unfold aNV at a;cases op<;>simp only at a<;>try (cases a;done)
 · cases hb:ble (l+l') 1000000000 with
   |false=>rw [hb]at a;cases a
   | true=>
    rw [hb]at a;simp only [cond]at a;cases a;have c:=Nat.le_of_ble_eq_true hb;refine⟨.string (iH l n++iH l' b),?_,by rw [aLf];simp only [VR];rfl⟩;have:¬ (((iH l n).size+ (iH l' b).size:Nat) :Int) >IntKind.i64.max:=by
     rw [mT,mT];simp [IntKind.max,IntKind.signed,IntKind.bits];omega
    simp only [binOp,Op.stringOp,this,if_false];rfl
 · cases a;refine⟨_,by simp only [binOp,Op.stringOp,qT];rfl,?_⟩;simp only [VR,yP];congr 1;simp [Bool.beq_eq_decide_eq]
 · cases a;refine⟨_,by simp only [binOp,Op.stringOp,qT];rfl,?_⟩;simp only [VR,yP];congr 1;simp [Bool.beq_eq_decide_eq]
 · cases a;refine⟨_,by simp only [binOp,Op.stringOp,qT];rfl,?_⟩;simp only [VR]
 · cases a;refine⟨_,by simp only [binOp,Op.stringOp,qT];rfl,?_⟩;simp only [VR]
theorem aN1 (d:Nat){t:TypeId}{x y:AV}{j i:Value}{b:Bool}(he:aeq P t x y=some b)(e:VR E x j)(c:VR E y i) :
  (Op.equalIn (d+1) t j i).run P w= .ok b w:=by
 unfold aeq at he;split at he<;>cases he<;>simp only [VR]at e c<;>rename_i f
 ·subst e c;simp [Op.equalIn,aB f]
 ·subst e c;simp [Op.equalIn,aB f]
 ·obtain⟨L,_,rfl⟩ :=c;subst e;simp [Op.equalIn,aB f]
 ·obtain⟨L,_,rfl⟩ :=e;subst c;simp [Op.equalIn,aB f]
 ·obtain⟨u,rfl,_⟩ :=c;subst e;simp [Op.equalIn,aB f]
 ·obtain⟨u,rfl,_⟩ :=e;subst c;simp [Op.equalIn,aB f]
 ·subst e c;simp [Op.equalIn,aB f]
 ·obtain⟨a,b,rfl,_⟩ :=c;subst e;simp [Op.equalIn,aB f]
 ·obtain⟨a,b,rfl,_⟩ :=e;subst c;simp [Op.equalIn,aB f]
 ·subst e c;simp [Op.equalIn,aB f]
 ·obtain⟨L,h,g,_,rfl,_⟩ :=c;subst e;simp [Op.equalIn,aB f]
 ·obtain⟨L,h,g,_,rfl,_⟩ :=e;subst c;simp [Op.equalIn,aB f]
 ·subst e c;simp [Op.equalIn,aB f]
 · rcases e with⟨k,_⟩ | ⟨L,a,g,_,rfl,_⟩
   ·omega
   ·subst c;simp [Op.equalIn,aB f]
theorem aHv {t:TypeId}{x y:AV}{c a:Value}{b:Bool}(he:aeq P t x y=some b)(e:VR E x c)(d:VR E y a) :
  (Op.equal t c a).run P w= .ok b w:=aN1 9999 he e d
theorem aHw (d:Nat){t:TypeId}{a:Array (String×TypeId)}(b:P.underlying t=some (.interface a)) : (Op.equalIn (d+1) t .nilIface .nilIface).run P w= .ok true w:=by
 simp [Op.equalIn,aB b]
theorem aHx {t:TypeId}{x y:AV}{f e:Value}{b:Bool}(he:aeq P t x y=some b)(d:VR E x f)(c:VR E y e)(X Y:Operand)(op:BinOp) :
  (eqGuard op t X Y f e).run P w= .ok () w∧ (op= .eql→binOp op t f e= (do pure (.bool (←Op.equal t f e)))) ∧ (op= .neq→binOp op t f e= (do pure (.bool (!(←Op.equal t f e))))) :=by
 unfold aeq at he;split at he<;>cases he<;>simp only [VR]at d c<;>rename_i j
 all_goals (first
  | (obtain⟨L,a,g,_,rfl,_⟩ :=d.resolve_left (fun h=>by have:=h.1;omega);subst c;refine⟨?_,fun h=>by subst h;simp [binOp],fun h=>by subst h;simp [binOp]⟩;cases op<;>simp [eqGuard])
  | (subst d c;refine⟨?_,fun h=>by subst h;simp [binOp],fun h=>by subst h;simp [binOp]⟩;cases op<;>simp [eqGuard])
  | (obtain⟨L,_,rfl⟩ :=c;subst d;refine⟨?_,fun h=>by subst h;simp [binOp],fun h=>by subst h;simp [binOp]⟩;cases op<;>simp [eqGuard])
  | (obtain⟨L,_,rfl⟩ :=d;subst c;refine⟨?_,fun h=>by subst h;simp [binOp],fun h=>by subst h;simp [binOp]⟩;cases op<;>simp [eqGuard])
  | (obtain⟨u,rfl,_⟩ :=c;subst d;refine⟨?_,fun h=>by subst h;simp [binOp],fun h=>by subst h;simp [binOp]⟩;cases op<;>simp [eqGuard])
  | (obtain⟨u,rfl,_⟩ :=d;subst c;refine⟨?_,fun h=>by subst h;simp [binOp],fun h=>by subst h;simp [binOp]⟩;cases op<;>simp [eqGuard])
  | (obtain⟨a,b,rfl,_⟩ :=c;subst d;refine⟨?_,fun h=>by subst h;simp [binOp],fun h=>by subst h;simp [binOp]⟩;cases op<;>simp [eqGuard])
  | (obtain⟨a,b,rfl,_⟩ :=d;subst c;refine⟨?_,fun h=>by subst h;simp [binOp],fun h=>by subst h;simp [binOp]⟩;cases op<;>simp [eqGuard])
  | (obtain⟨L,i,g,_,rfl,_⟩ :=c;subst d;refine⟨?_,fun h=>by subst h;simp [binOp],fun h=>by subst h;simp [binOp]⟩;cases op<;>simp [eqGuard])
  | (obtain⟨L,i,g,_,rfl,_⟩ :=d;subst c;refine⟨?_,fun h=>by subst h;simp [binOp],fun h=>by subst h;simp [binOp]⟩;cases op<;>simp [eqGuard]))
theorem wM (op:BinOp)(t:TypeId)(X Y:Operand)(k c:IntKind)(a b:Int) : (eqGuard op t X Y (.int k a) (.int c b)).run P w= .ok () w:=by
 cases op<;>simp [eqGuard]
theorem aLg (op:BinOp)(t:TypeId)(X Y:Operand)(a b:ByteArray) : (eqGuard op t X Y (.string a) (.string b)).run P w= .ok () w:=by
 cases op<;>simp [eqGuard]
theorem aN2 {op:BinOp}{t:TypeId}{x y:AV}{j h:Value}{v:AV}(X Y:Operand)(c:aZE P op t x y (isLit X) (isLit Y) =some v)(e:VR E x j)(d:VR E y h) :
  ∃cv,(do eqGuard op t X Y j h;binOp op t j h:Sem Value).run P w= .ok cv w∧VR E v cv:=by
 unfold aZE at c;split at c
 · rename_i k a q b;simp only [VR]at e d;subst e d;split at c
   · split at c
     ·cases c
     · rename_i hb;cases c;exact⟨_,by simp [wM,binOp,Op.shift,hb];rfl,by simp [VR]⟩
   · split at c
     ·cases c
     · rename_i hb;cases c;exact⟨_,by simp [wM,binOp,Op.shift,hb];rfl,by simp [VR]⟩
   · rename_i o p;split at c
     · rename_i hk;subst hk;obtain⟨cv,f,g⟩ :=aII (P:=P) (w:=w) (E:=E) c t o p;exact⟨cv,by simp [wM,f],g⟩
     ·cases c
 · rename_i l n s r;simp only [VR]at e d;subst e d;obtain⟨cv,f,g⟩ :=aIK (P:=P) (w:=w) (E:=E) c t;exact⟨cv,by simp [aLg,f],g⟩
 · simp only [VR]at e d;subst e d;cases hl: (isLit X||isLit Y)with
   |false=>rw [hl]at c;cases c
   | true=>
    rw [hl]at c;simp only [cond]at c;have m: (eqGuard op t X Y .nilIface .nilIface).run P w= .ok () w:=by
     cases op<;>first| (simp [eqGuard];done) | (cases X<;>cases Y<;>first| (simp [eqGuard];done) | (simp [isLit]at hl))
    split at c
    · rename_i i;cases c;refine⟨.bool true,?_,by simp [VR]⟩;have: (Op.equal t .nilIface .nilIface).run P w= .ok true w:=aHw 9999 i;simp [m,binOp,this]
    · rename_i i;cases c;refine⟨.bool false,?_,by simp [VR]⟩;have: (Op.equal t .nilIface .nilIface).run P w= .ok true w:=aHw 9999 i;simp [m,binOp,this]
    ·cases c
 · split at c
   · rename_i b hb;cases c;obtain⟨f,g,_⟩ :=aHx (w:=w) hb e d X Y .eql;exact⟨.bool b,by simp [f,g,aHv hb e d],by simp [VR]⟩
   · rename_i b hb;cases c;obtain⟨f,_,g⟩ :=aHx (w:=w) hb e d X Y .neq;exact⟨.bool (!b),by simp [f,g,aHv hb e d],by simp [VR]⟩
   ·cases c
theorem aSq {op:UnOp}{x v:AV}{c:Value}(a:aun op x=some v)(b:VR E x c) :∃cv,(Op.unary op c).run P w= .ok cv w∧VR E v cv:=by
 unfold aun at a;split at a<;>cases a<;>simp only [VR]at b<;>subst b
 ·exact⟨_,by simp [Op.unary,Op.intArith];rfl,by simp [VR,aAc]⟩
 ·exact⟨_,by simp [Op.unary];rfl,by simp [VR]⟩
theorem aAf :∀ {c:List AV} {n:Nat} {d:List Value},aD3 c=some n→VRs E c d →
  d= (aQ c.length n).map fun b=>.int .u8 (b.toNat:Int)
 | [],n,d,h,f=>by simp [f.nil_inv,aQ]
 | a :: c,n,d,h,f=>by
  obtain⟨u,i,rfl,g,j⟩ :=f.cons_inv;unfold aD3 at h;split at h
  ·rename_i e;cases e
  · rename_i m p e;cases e;split at h
    · rename_i hm;split at h
      · rename_i k hk;cases h;simp only [VR]at g;subst g;have l: (m.toNat+256*k) % 256=m.toNat:=by omega
        have o: (m.toNat+256*k) / 256=k:=by omega
        simp only [mO,aQ,eI,l,o];rw [aAf hk j];congr 1;simp;omega
      ·cases h
    ·cases h
  ·cases h
theorem aG7 (bs:List UInt8)(f:Value→ByteArray→Sem (ForInStep ByteArray))(c:∀ (b:UInt8) s,f (.int .u8 (b.toNat:Int)) s=pure (ForInStep.yield (s.push b))) :
  ∀ (s:ByteArray),(forIn (m:=Sem) (bs.map fun b=>Value.int .u8 (b.toNat:Int)) s f).run P w= .ok ⟨⟨s.data.toList++bs⟩⟩ w:=by
 induction bs with
 |nil=>intro s;simp
 | cons b bs a=>
  intro s;simp only [eI,List.forIn_cons,Sem.run_bind,c,Sem.run_pure,Result.andThen_ok];have:=a (s.push b);simp at this ⊢;exact this
theorem run_bytesToString {a:Addr}{len cap:Nat}{bs:List UInt8}(h: (loadCells a len).run P w= .ok ⟨bs.map fun b=>Value.int .u8 (b.toNat:Int)⟩ w) :
  (Conv.bytesToString (.slice (some a) len cap)).run P w= .ok (.string ⟨⟨bs⟩⟩) w:=by
 simp only [Conv.bytesToString,Sem.run_bind,h,Result.andThen_ok]
 rw [show(⟨List.map (fun b:UInt8=>Value.int IntKind.u8 (b.toNat:Int)) bs⟩ :Array Value) = (List.map (fun b:UInt8=>Value.int IntKind.u8 (b.toNat:Int)) bs).toArray from rfl,List.forIn_toArray,
  aG7 bs _ (fun b s=>by simp)]
 rfl
theorem aIL (n:Int)(h:0≤n∧n<128) :Utf8.encode n=iH 1 n.toNat:=by
 have a:Utf8.valid n=true:=by simp [Utf8.valid];omega
 have hc:n.toNat<0x80:=by omega
 apply aBj;simp only [Utf8.encode,a,if_true,hc,iH,aQ];rw [show n.toNat % 256=n.toNat by omega]
theorem aEV (r:Rel E h w.heap){s d:TypeId}{x v:AV}{t:Value}(a:vY P h s d x=some v)(g:VR E x t) :
  ∃cv,(convert s d t).run P w= .ok cv w∧VR E v cv:=by
 unfold vY at a;split at a
 · rename_i c f;cases a;simp only [VR]at g;subst g;exact⟨_,by simp [convert,aB c,aB f,Conv.intToInt];rfl,by simp [VR,aAc]⟩
 · rename_i c f;split at a
   · rename_i l;cases a;simp only [VR]at g;subst g;exact⟨_,by simp [convert,aB c,aB f,Conv.intToString];rfl,by simp [VR,aIL _ l]⟩
   ·cases a
 · rename_i c f;cases a;simp only [VR]at g;subst g;exact⟨_,by simp [convert,aB c,aB f];rfl,by simp [VR]⟩
 · rename_i e b A len C B x c f;split at a
   · rename_i m he hl;simp only [VR]at g;obtain⟨L,j,i,hE,rfl,H,J,F,y,G⟩ :=g;obtain⟨I,u,q,D⟩ :=aEU r hl hE;unfold sD at a;split at a
     · rename_i n l;cases a;have o:=aAf l q;have k:m.length=len:=by rw [←q.length,D]
       refine⟨.string (iH m.length n),?_,by simp [VR]⟩;by_cases z:i=0
       · -- an empty slice of no room:nothing is read
         have p:len=0:=by omega
         subst p;have: (loadCells ⟨L.blk,j,none⟩ 0).run P w= .ok ⟨(aQ m.length n).map fun b=>Value.int .u8 (b.toNat:Int)⟩ w:=by
          rw [k];simp [loadCells,loadCellsFrom,aQ]
         simp only [convert,Sem.run_bind,aB c,aB f,Result.andThen_ok,aB he];exact run_bytesToString this
       · have:=y z;subst this;simp only [convert,Sem.run_bind,aB c,aB f,Result.andThen_ok,aB he];exact run_bytesToString (by rw [u P,o])
     ·cases a
   ·cases a
 ·cases a
def OVR (E:Emb) :Option AV→Option Value→Prop
 |none,none=>True
 |some a,some c=>VR E a c
 |_,_=>False
def NVR :Option Nat→Option Value→Prop
 |none,none=>True
 |some n,some c=>∃k,c= .int k (n:Int)
 |_,_=>False
theorem sH {x:Option AV}{cx:Option Value}{m:Option Nat}(h:hJ x=some m)(a:OVR E x cx) :NVR m cx:=by
 unfold hJ at h;split at h
 ·cases h;cases cx<;>simp_all [OVR,NVR]
 · split at h
   · rename_i b;cases h;cases cx with
     |none=>exact a
     |some c=>simp only [OVR,VR]at a;exact⟨_,by rw [a];congr 1;omega⟩
   ·cases h
 ·cases h
theorem jX (k:IntKind)(i:Nat)(y:Nat)(code:BoundsCode)(h1:i≤y) : (Instr.sliceBound (.int k (i:Int)) y code).run P w= .ok i w:=by
 have: (0:Int) ≤i∧ (i:Int) ≤y:=by omega
 simp [Instr.sliceBound,asIntOf,this]
theorem jO {isS:Bool}{len cap:Nat}{lo i g:Option Nat}{d f e:Option Value}(h1:NVR lo d)(h2:NVR i f)(k:NVR g e)(hm:g.isSome=true→i.isSome=true)
  (a:lo.getD 0≤i.getD len) (b:i.getD len≤g.getD cap) (c:g.getD cap≤cap) :
  (Instr.sliceBounds isS len cap d f e).run P w= .ok (lo.getD 0,i.getD len,g.getD cap) w:=by
 cases lo<;>cases i<;>cases g<;>cases d<;>cases f<;>cases e<;>simp only [NVR]at h1 h2 k<;>simp only [Option.isSome,getD]at hm a b c ⊢
 case some.some.some.some.some.some l h m _ _ _=>
  obtain⟨n,rfl⟩ :=h1;obtain⟨j,rfl⟩ :=h2;obtain⟨o,rfl⟩ :=k;simp [Instr.sliceBounds,jX _ _ _ _ c,jX _ _ _ _ b,jX _ _ _ _ a]
 case none.some.some.none.some.some=>
  obtain⟨j,rfl⟩ :=h2;obtain⟨o,rfl⟩ :=k;simp [Instr.sliceBounds,jX _ _ _ _ c,jX _ _ _ _ b]
 case some.some.none.some.some.none=>
  obtain⟨n,rfl⟩ :=h1;obtain⟨j,rfl⟩ :=h2;simp [Instr.sliceBounds,jX _ _ _ _ b,jX _ _ _ _ a]
 case none.some.none.none.some.none=>
  obtain⟨j,rfl⟩ :=h2;simp [Instr.sliceBounds,jX _ _ _ _ b]
 case some.none.none.some.none.none=>
  obtain⟨n,rfl⟩ :=h1;simp [Instr.sliceBounds,jX _ _ _ _ a]
 case none.none.none.none.none.none=>simp [Instr.sliceBounds]
 all_goals (simp at hm)
theorem aIM {t:TypeId}{x v:AV}{F:Value}{lo i o:Option Nat}{q p j:Option Value}(d:tI P t x lo i o=some v)(l:VR E x F)
  (h1:NVR lo q) (h2:NVR i p) (z:NVR o j) :∃cv,(Instr.sliceAt t F q p j).run P w= .ok cv w∧VR E v cv:=by
 unfold tI at d;split at d
 · rename_i len n r;split at d
   ·cases d
   · simp only at d;cases hb: (ble (lo.getD 0) (i.getD len) &&ble (i.getD len) len)with
     |false=>rw [hb]at d;cases d
     | true=>
      rw [hb]at d;simp only [cond]at d;cases d;simp only [jF,cP,decide_eq_true_eq]at hb;simp only [VR]at l;subst l;cases j with
      |some c=>exact z.elim
      | none=>
       refine⟨.string ((iH len n).extract (lo.getD 0) (i.getD len)),?_,by simp only [VR];rw [aIJ _ _ _ _ hb.1 hb.2];rfl⟩;have:=jO (P:=P) (w:=w) (isS:=false) (len:=len) (cap:=len) h1 h2 (show NVR none none from trivial) (by simp) hb.1 (by simpa using hb.2) (le_refl _);simp [Instr.sliceAt,Instr.slice,aB r,mT,this]
 · rename_i e b J len cap A exact r;simp only at d;split at d
   ·cases d
   · rename_i sz g;cases hb: (beq sz A&&ble (lo.getD 0) (i.getD len) &&ble (i.getD len) cap)with
     |false=>rw [hb]at d;cases d
     | true =>
      rw [hb]at d;simp only [cond]at d;simp only [jF,bM,cP,decide_eq_true_eq]at hb;obtain⟨⟨rfl,k⟩,D⟩ :=hb;simp only [VR]at l;obtain⟨L,f,a,hE,rfl,K,N,I,H,M⟩ :=l;cases o with
      | some m =>cases i with
       |none=>cases d
       | some hh=>
        simp only at d;cases hb: (ble (getD (some hh) len) m&&ble m cap)with
        |false=>rw [hb]at d;cases d
        | true =>
         rw [hb]at d;simp only [cond]at d;cases d;simp only [jF,cP,decide_eq_true_eq,Option.getD_some]at hb k D;have:=jO (P:=P) (w:=w) (isS:=true) (len:=len) (cap:=a) h1 h2 z (by simp) (by simpa using k) (by simpa using hb.1) (by simp;omega);refine⟨.slice (if m=lo.getD 0 then some ⟨L.blk,f,none⟩else some ⟨L.blk,f+lo.getD 0*sz,none⟩) (hh-lo.getD 0) (m-lo.getD 0),?_,?_⟩
         ·simp [Instr.sliceAt,Instr.slice,aB r,this,bY g,fZ]
         · simp only [VR];by_cases y:m=lo.getD 0
           · rw [if_pos y];have C:lo.getD 0*sz≤a*sz:=mul_le_mul_right _ (by omega);exact⟨L,f,m-lo.getD 0,hE,rfl,by simp;omega,by omega,fun _=>rfl,fun s=>by omega,by rw [show m-lo.getD 0=0 by omega];omega⟩
           · rw [if_neg y];have s:a≠0:=by have:lo.getD 0≤hh:=k;omega
             have C:m*sz≤a*sz:=mul_le_mul_right _ (by omega);have G:f+lo.getD 0*sz+ (m-lo.getD 0) *sz=f+m*sz:=by
              rw [add_assoc,←add_mul,show lo.getD 0+ (m-lo.getD 0) =m by have:lo.getD 0≤hh:=k;omega]
             exact⟨L,_,m-lo.getD 0,hE,rfl,by simp;omega,by omega,fun _=>rfl,fun _=>by rw [H s];omega,by rw [G];omega⟩
      | none =>
       simp only at d;cases d;cases j with
       |some c=>exact z.elim
       | none =>
        have:=jO (P:=P) (w:=w) (isS:=true) (len:=len) (cap:=a) h1 h2 (show NVR none none from trivial) (by simp) k (by simp;omega) (le_refl _);refine⟨.slice (if a=lo.getD 0 then some ⟨L.blk,f,none⟩else some ⟨L.blk,f+lo.getD 0*sz,none⟩) (i.getD len-lo.getD 0) (a-lo.getD 0),?_,?_⟩
        ·simp [Instr.sliceAt,Instr.slice,aB r,this,bY g,fZ]
        · simp only [VR];by_cases y:a=lo.getD 0
          · rw [if_pos y];exact⟨L,f,a-lo.getD 0,hE,rfl,by omega,by omega,fun l=>by rw [I l],fun s=>by omega,by rw [show a-lo.getD 0=0 by omega];omega⟩
          · rw [if_neg y];have s:a≠0:=by omega
            have G:f+lo.getD 0*sz+ (a-lo.getD 0) *sz=f+a*sz:=by
             rw [add_assoc,←add_mul,show lo.getD 0+ (a-lo.getD 0) =a by omega]
            exact⟨L,_,a-lo.getD 0,hE,rfl,by omega,by omega,fun l=>by rw [I l],fun _=>by rw [H s];omega,by rw [G];omega⟩
 · rename_i e r
   have u:∀ {sz},aY P e=some sz→ (o.isSome=true→i.isSome=true) → (bif beq (lo.getD 0) 0&&beq (i.getD 0) 0&&beq (o.getD 0) 0 then some AV.nils else none) =some v →
     ∃cv,(Instr.sliceAt t F q p j).run P w= .ok cv w∧VR E v cv:=by
    intro sz g B d;cases hb: (beq (lo.getD 0) 0&&beq (i.getD 0) 0&&beq (o.getD 0) 0)with
    |false=>rw [hb]at d;cases d
    | true=>
     rw [hb]at d;simp only [cond]at d;cases d;simp only [bM,cP,decide_eq_true_eq]at hb;simp only [VR]at l;subst l;have:=jO (P:=P) (w:=w) (isS:=true) (len:=0) (cap:=0) h1 h2 z B (by omega) (by omega) (by omega);refine⟨.slice none 0 0,?_,by simp [VR]⟩;simp [Instr.sliceAt,Instr.slice,aB r,this,bY g,hb]
   cases g:aY P e with
   |none=>rw [g]at d;cases o<;>cases i<;>cases d
   | some sz=>
    rw [g]at d;cases o with
    |none=>exact u g (fun h=>by cases h) d
    | some m=>cases i with
     |none=>cases d
     |some hh=>exact u g (fun _=>rfl) d
 ·cases d
theorem aEW (off:Nat) :∀ (l:List Value) (k:Nat) (a:Array Value),(l.zipIdx k).foldl (fun a (p:Value×Nat) =>a.setIfInBounds (off+p.2) p.1) a=over a (off+k) l
 | [],_,_=>rfl
 | v::l,k,a=>by
  simp only [List.zipIdx_cons,List.foldl_cons,over];rw [aEW off l (k+1),add_assoc]
theorem tO {e:Nat→Option (Nat×Nat)}:∀ {n:List (Nat×AV)} {qs:List (Nat×Value)} {c h:List AV} {d:Array Value},iZ e c n=some h →
  n.map (·.1) =qs.map (·.1) →VRs E (n.map (·.2)) (qs.map (·.2)) →VRs E c d.toList→∃out,Instr.fill e d qs=some out∧VRs E h out.toList
 | [],qs,c,h,d,f,hk,_,m=>by
  simp [iZ]at f;subst f;have:qs= [] :=by cases qs with|nil=>rfl|cons _ _=>simp at hk
  subst this;exact⟨d,rfl,m⟩
 | (i, a) ::n,qs,c,h,d,f,hk,C,m=>by
  cases qs with
  |nil=>simp at hk
  | cons q qs=>
   obtain⟨j,u⟩ :=q;simp only [eI,List.cons.injEq]at hk;obtain⟨rfl,hk⟩ :=hk;obtain⟨I,G,he,t,D⟩ :=C.cons_inv;simp only [eI,List.cons.injEq]at he;obtain⟨rfl,rfl⟩ :=he;simp only [iZ]at f;split at f
   ·cases f
   · rename_i b size w;cases hb: (beq a.cells.length size&&ble (b+size) c.length)with
     |false=>rw [hb]at f;cases f
     | true =>
      rw [hb]at f;simp only [cond]at f;simp only [jF,bM,cP,decide_eq_true_eq]at hb;have o:u.cells.size=size:=by rw [←hb.1,←t.cells.length];simp
      have F:d.size=c.length:=by rw [←m.length];simp
      have l:VRs E (c.take b++a.cells++c.drop (b+size)) (over d b u.cells.toList).toList:=by
       refine VRs.of_get (by simp [mV];omega) fun k x g=>?_;rw [rO,mA _ _ _ _ (by simp;omega)];simp only [Array.length_toList,o];by_cases B:k<b
       · rw [zq9,hP (by simp;omega),List.getElem?_take_of_lt B]at g;rw [if_neg (by omega)];obtain⟨v,r,s⟩ :=m.get k x g;exact⟨v,by simpa using r,s⟩
       · by_cases H:k<b+size
         · rw [hP (by simp;omega),iQ (by simp;omega)]at g;simp only [List.length_take]at g;rw [show min b c.length=b by omega]at g;rw [if_pos (by omega)];exact t.cells.get _ x g
         · rw [iQ (by simp;omega),List.getElem?_drop]at g;simp only [vP,List.length_take]at g;rw [show b+size+ (k- (min b c.length+a.cells.length)) =k by omega]at g;rw [if_neg (by omega)];obtain⟨v,r,s⟩ :=m.get k x g;exact⟨v,by simpa using r,s⟩
      obtain⟨out,y,A⟩ :=tO f hk D l;refine⟨out,?_,A⟩;have:u.cells.zipIdx.foldl (fun h (p:Value×Nat) =>h.setIfInBounds (b+p.2) p.1) d=over d b u.cells.toList:=by
       rw [←Array.foldl_toList,Array.toList_zipIdx,aEW];rfl
      simp only [Instr.fill,w];rw [if_neg (by simp;omega)];rw [←y];exact congrArg (fun z=>Instr.fill e z qs) this
theorem aDZ (l:List Field)(hl:∀f∈l,∃n,aY P f.type=some n) :
  ((l.mapM fun f=>do pure (f.offset,←sizeOf f.type) :Sem (List (Nat×Nat)))).run P w= .ok (l.map fun f=> (f.offset,(aY P f.type).getD 0)) w:=by
 induction l with
 |nil=>simp
 | cons f l b=>
  obtain⟨n,a⟩ :=hl f (cQ ..);have:=b (fun g c=>hl g (cH _ c));simp only [List.mapM_cons,Sem.run_bind,bY a,Result.andThen_ok,Sem.run_pure,eI,a,getD]at this ⊢;rw [this];rfl
theorem aIN {t:TypeId}{ps:List (Nat×AV)}{qs:Array (Nat×Value)}{v:AV}(a:aNW P t ps=some v)(hk:ps.map (·.1) =qs.toList.map (·.1))(hp:VRs E (ps.map (·.2)) (qs.toList.map (·.2))) :
  ∃cv,(Instr.build t qs).run P w= .ok cv w∧VR E v cv:=by
 unfold aNW at a;split at a
 · rename_i z fs hz m;obtain⟨q,j,h⟩ :=iT hz;split at a
   · rename_i x c;cases hb: (fs.all fun f=> (aY P f.type).isSome)with
     |false=>rw [hb]at a;cases a
     | true=>
      rw [hb]at a;simp only [cond]at a;cases a
      have b:∀f∈fs.toList,∃n,aY P f.type=some n:=fun f p=>by
       rw [Array.all_eq_true]at hb;obtain⟨i,r,rfl⟩ :=List.getElem_of_mem p;have:=hb i (by simpa using r);exact Option.isSome_iff_exists.1 (by simpa using this)
      have hm: (fs.mapM fun f=>do pure (f.offset,←sizeOf f.type) :Sem (Array (Nat×Nat))).run P w= .ok (fs.map fun(f:Field) => (f.offset,(aY P f.type).getD 0)) w:=by
       rw [Array.mapM_eq_mapM_toList];simp only [Sem.run_map,aDZ (w:=w) fs.toList b,Result.andThen_ok];refine congrArg (fun z=>Result.ok z w) ?_;apply Array.ext';simp
      obtain⟨out,g,l⟩ :=tO c hk hp (h E).cells;refine⟨.agg out,?_,by simp only [VR];exact⟨_,rfl,l⟩⟩
      have k: (fun(i:Nat) => (fs.map fun(f:Field) => (f.offset,(aY P f.type).getD 0))[i]?) = (fun(i:Nat) =>match(fs[i]?:Option Field)with
        | some f=>match aY P f.type with
         |some s=>some (f.offset,s)
         |none=>none
        |none=>none) :=by
       funext i
       rw [Array.getElem?_map];cases p:fs[i]? with
       |none=>rfl
       | some f=>
        have d:f∈fs.toList:=by
         have:=zq44.1 p;obtain⟨r,rfl⟩ :=this;simp
        obtain⟨n,y⟩ :=b f d;simp [y]
      simp only [Instr.build,Sem.run_bind,j,Result.andThen_ok,aB m,hm];have o:Instr.fill (fun(i:Nat) => (fs.map fun(f:Field) => (f.offset,(aY P f.type).getD 0))[i]?) q.cells qs.toList=some out:=by
       rw [k];exact g
      rw [o];rfl
   ·cases a
 · rename_i z e n hz m;obtain⟨q,j,h⟩ :=iT hz;split at a
   ·cases a
   · rename_i s u;split at a
     · rename_i x c;cases a;obtain⟨out,g,l⟩ :=tO c hk hp (h E).cells;refine⟨.agg out,?_,by simp only [VR];exact⟨_,rfl,l⟩⟩;simp only [Instr.build,Sem.run_bind,j,Result.andThen_ok,aB m,bY u,g];rfl
     ·cases a
 ·cases a
theorem oD (cs:List AV) :∀n,(lP cs n).length=n*cs.length
 |0=>by simp [lP]
 |n+1=>by rw [lP,vP,oD cs n,Nat.succ_mul];omega
theorem aLh (cs:List AV)(b:0<cs.length) :∀n i,i<n*cs.length→ (lP cs n)[i]?=cs[i % cs.length]?
 |0,i,h=>by simp at h
 | n+1,i,h=>by
  rw [lP];by_cases a:i<cs.length
  ·rw [hP a,Nat.mod_eq_of_lt a]
  · rw [iQ (by omega),aLh cs b n _ (by rw [Nat.succ_mul]at h;omega)];rw [←Nat.mod_eq_sub_mod (by omega)]
theorem aCz {e:List AV}{z:Array Value}(hz:VRs E e z.toList)(n:Nat)(g:0<z.size) :
  VRs E (lP e n) ((Array.range (n*z.size)).map (fun i=>z[i % z.size]!)).toList:=by
 have hl:=hz.length;simp only [Array.length_toList]at hl;refine VRs.of_get (by simp [oD,hl]) fun i a c=>?_;have d:i<n*e.length:=by have:= (zq0.1 c).1;rwa [oD]at this
 rw [aLh _ (by omega) _ _ d]at c;obtain⟨v,b,f⟩ :=hz.get _ a c;refine⟨v,?_,f⟩;rw [rO,Array.getElem?_map,Array.getElem?_range];rw [←hl]at d b;simp only [d,if_true,Option.map_some];simp only [rO]at b;rw [Array.getElem!_eq_getD,aAx,b];rfl
theorem qU (r:Rel E h w.heap){t:TypeId}{len s:Nat}{ps:List (Nat×AV)}{qs:Array (Nat×Value)}{cs:List AV}(d:qN P t len ps=some (cs,s))(hk:ps.map (·.1) =qs.toList.map (·.1))(hp:VRs E (ps.map (·.2)) (qs.toList.map (·.2))) :
  ∃ (out:List Value) (e:TypeId),VRs E cs out∧len*s≤out.length∧∀w,(Instr.buildSlice t len qs).run P w= .ok (.slice (some ⟨w.heap.size,0,none⟩) len len) {w with heap:=w.heap.push (.cells ⟨out⟩ e)}:=by
 unfold qN at d;split at d
 · rename_i e A;split at d
   · rename_i n z x hz;cases hb: (ble (len*n) 1000&& !(beq n 0) &&beq z.cells.length n)with
     |false=>rw [hb]at d;cases d
     | true =>
      rw [hb]at d;simp only [cond]at d;simp only [jF,bM,cP,decide_eq_true_eq,Bool.not_eq_true',decide_eq_false_iff_not]at hb;split at d
      · rename_i F k;cases d;obtain⟨C,G,u⟩ :=iT hz;have o:= (u E).cells.length;simp only [Array.length_toList]at o;have g:C.cells.size=s:=by omega
        have v:=aCz (u E).cells len (by omega);rw [g]at v;obtain⟨out,l,B⟩ :=tO k hk hp v;have I :out.toList.length=len*s:=by
         have J:=B.length;have D:∀ {ps:List (Nat×AV)} {c:Nat→Option (Nat×Nat)} {a b:List AV},iZ c a ps=some b→b.length=a.length:=by
          intro ps
          induction ps with
          |nil=>intro c a b f;simp [iZ]at f;rw [f]
          | cons p ps H=>
           intro c a b f;simp only [iZ]at f;split at f
           ·cases f
           · rename_i m size _;cases hc: (beq p.2.cells.length size&&ble (m+size) a.length)with
             |false=>rw [hc]at f;cases f
             | true=>
              rw [hc]at f;simp only [cond]at f;simp only [jF,bM,cP,decide_eq_true_eq]at hc;rw [H f];simp;omega
         rw [J,D k,oD];rw [hb.2]
        refine⟨out.toList,e,B,by omega,fun w=>?_⟩;have j:¬len*s>2 ^ 24:=by omega
        by_cases y:len*s=0
        · have q:len=0:=by
           rcases Nat.mul_eq_zero.1 y with h|h
           ·exact h
           ·omega
          subst q;have i:Array.range 0= #[] :=rfl;simp only [Nat.zero_mul,i,List.map_toArray,List.map_nil]at l;simp [Instr.buildSlice,aB A,bY x,i,l,newRow]
        · simp only [Instr.buildSlice,Sem.run_bind,aB A,Result.andThen_ok,bY x,j,if_false,Sem.run_pure,y,G];simp only [g];simp [l,newRow]
      ·cases d
   ·cases d
 ·cases d
theorem eR {r:Nat}{a:Array MapEntry}{c:Nat}(hr:w.heap[r]?=some (.map a c)) : (getObj r).run P w= .ok (.map a c) w:=by
 simp [getObj,Sem.run,hr]
theorem pU {r:Nat}{ob ob':Obj}(hr:w.heap[r]?=some ob)(hc:∀c e f,ob≠ .cells c e f) : (setObj r ob').run P w= .ok () (cE w r ob') :=by
 cases ob<;>simp [setObj,Sem.run,hr,cE] <;>exact absurd rfl (hc _ _ _)
theorem aU4 (a b:ByteArray) : (a==b) =decide (a=b) :=by
 cases a with|mk x=>cases b with|mk y=>
 show ByteArray.beq _ _=_;simp [ByteArray.beq,Bool.beq_eq_decide_eq]
theorem fE {d:TypeDesc}{k:AV}{a:Value}(h:plainKey d k=true)(hk:VR E k a) :
  (∃i kk n,d= .int i∧k= .int kk n∧a= .int kk n) ∨ (∃l n,d= .string∧k= .str l n∧a= .string (iH l n)) ∨ (∃b,d= .bool∧k= .bool b∧a= .bool b) :=by
 unfold plainKey at h;split at h
 ·simp only [VR]at hk;exact .inl ⟨_,_,_,rfl,rfl,hk⟩
 ·simp only [VR]at hk;exact .inr (.inl ⟨_,_,rfl,rfl,hk⟩)
 ·simp only [VR]at hk;exact .inr (.inr ⟨_,rfl,rfl,hk⟩)
 ·cases h
theorem run_checkKey {t:TypeId}{d:TypeDesc}{k:AV}{a:Value}(e:Bool)(n:Nat)(c:P.underlying t=some d)(hp:plainKey d k=true)(hk:VR E k a) :
  (Instr.checkKey e (n+1) t a).run P w= .ok () w:=by
 rcases fE hp hk with⟨i,kk,m,rfl,rfl,rfl⟩ | ⟨l,m,rfl,rfl,rfl⟩ | ⟨b,rfl,rfl,rfl⟩ <;>simp [Instr.checkKey,aB c]
theorem aAF {d:TypeDesc}{k f:AV}{g c:Value}{b:Bool}(hp:plainKey d k=true)(hk:VR E k g)(a:VR E f c)(hc:pM k f=some b) :
  Instr.sameNow d g c=some b∧ (b=true→c=g) :=by
 rcases fE hp hk with⟨i,kk,m,rfl,rfl,rfl⟩ | ⟨l,m,rfl,rfl,rfl⟩ | ⟨b,rfl,rfl,rfl⟩
 · cases f<;>simp only [pM]at hc<;>try (cases hc;done)
   split at hc
   · rename_i h;cases hc;simp only [VR]at a;subst h a;exact⟨by simp [Instr.sameNow],fun e=>by have:=beq_iff_eq.1 e;rw [this]⟩
   ·cases hc
 · cases f<;>simp only [pM]at hc<;>try (cases hc;done)
   cases hc;simp only [VR]at a;subst a;refine⟨?_,fun e=>?_⟩
   · simp only [Instr.sameNow,yP,aU4];congr 2;apply propext;constructor
     ·intro e;have:=congrArg (fun s:ByteArray=>s.data.toList) e;exact this
     ·intro e;exact aBj e
   · rw [yP]at e;have:=of_decide_eq_true e;simp only [iH,this]
 · cases f<;>simp only [pM]at hc<;>try (cases hc;done)
   cases hc;simp only [VR]at a;subst a;exact⟨by simp [Instr.sameNow],fun e=>by have:=beq_iff_eq.1 e;rw [this]⟩
theorem lC {d:TypeDesc}{k:AV}{f:Value}(hp:plainKey d k=true)(hk:VR E k f) :∀ {h:List (AV×AV×Nat)} {c:List MapEntry} {i:Nat} {r:Option (Nat×AV)},ERs E h c→pN k h i=some r →
  match r with
  |none=>Instr.findNow d f c i=some none
  |some (j,v) =>∃e l,i≤j∧h[j-i]?=some l∧c[j-i]?=some e∧Instr.findNow d f c i=some (some (j,e.val)) ∧VR E v e.val∧l.2.1=v∧e.key=f
 | [],c,i,r,he,b=>by
  simp [ERs]at he;simp [pN]at b;subst he b;rfl
 | a ::h,c,i,r,he,b=>by
  simp only [ERs]at he;obtain⟨u,B,rfl,m,z,A,n⟩ :=he;simp only [pN]at b;split at b
  · rename_i hc;cases b;obtain⟨g,y⟩ :=aAF hp hk m hc;exact⟨u,a,le_refl _,by simp,by simp,by simp [Instr.findNow,g],z,rfl,y rfl⟩
  · rename_i hc;obtain⟨g,_⟩ :=aAF hp hk m hc;have:=lC hp hk n b;cases r with
    |none=>simp only at this ⊢;simp [Instr.findNow,g,this]
    | some t=>
     obtain⟨j,v⟩ :=t;simp only at this ⊢;obtain⟨e,l,C,p,w,x,s,q,o⟩ :=this;refine⟨e,l,by omega,?_,?_,by simp [Instr.findNow,g,x],s,q,o⟩
     ·rw [show j-i= (j-Nat.succ i) +1 by omega];simpa using p
     ·rw [show j-i= (j-Nat.succ i) +1 by omega];simpa using w
  ·cases b
theorem ERs.length {b:List (AV×AV×Nat)}{c:List MapEntry}(he:ERs E b c) :c.length=b.length:=by
 induction b generalizing c with
 |nil=>simp [ERs]at he;subst he;rfl
 |cons a b d=>simp only [ERs]at he;obtain⟨u,f,rfl,_,_,_,e⟩ :=he;simp [d e]
theorem ERs.snoc {c:List (AV×AV×Nat)}{d:List MapEntry}(he:ERs E c d){k v:AV}{e cv:Value}{b:Nat}(hk:VR E k e)(i:VR E v cv) :ERs E (c++ [(k,v,b)]) (d++ [{key:=e,val:=cv,born:=b}]) :=by
 induction c generalizing d with
 |nil=>simp [ERs]at he;subst he;simp only [List.nil_append,ERs];exact⟨_,[],rfl,hk,i,rfl,rfl⟩
 |cons a c h=>simp only [ERs]at he;obtain⟨u,m,rfl,f,l,j,g⟩ :=he;simp only [vV,ERs];exact⟨u,_,rfl,f,l,j,h g⟩
theorem ERs.setE {b:List (AV×AV×Nat)}{c:List MapEntry}(he:ERs E b c){k v:AV}{d cv:Value}(hk:VR E k d)(o:VR E v cv)(i:Nat)(f:MapEntry→MapEntry)(j:∀e,c[i]?=some e→f e= {e with key:=d,val:=cv}) :
  ERs E (Hb.setE k v b i) (c.modify i f) :=by
 induction b generalizing c i with
 |nil=>simp [ERs]at he;subst he;simp [Hb.setE,ERs]
 | cons a b l=>
  simp only [ERs]at he;obtain⟨u,n,rfl,m,p,h,g⟩ :=he;cases i with
  | zero=>
   have:=j u rfl;simp only [Hb.setE,List.modify_zero_cons,ERs,this];exact⟨_,n,rfl,hk,o,h,g⟩
  | succ i=>
   simp only [Hb.setE,List.modify_succ_cons,ERs];exact⟨u,_,rfl,m,p,h,l g i (fun e he=>j e (by simpa using he))⟩
theorem aSr {c:List (AV×AV×Nat)}{d:List MapEntry}(he:ERs E c d)(i:Nat)(e:MapEntry)(b:d[i]?=some e) :e.born=aEO c i:=by
 induction c generalizing d i with
 |nil=>simp [ERs]at he;subst he;simp at b
 | cons a c f=>
  simp only [ERs]at he;obtain⟨u,k,rfl,j,l,h,g⟩ :=he;cases i with
  |zero=>simp at b;subst b;exact h
  |succ i=>exact f g i (by simpa using b)
theorem wN {d:TypeDesc}{k:AV}{a:Value}(hp:plainKey d k=true)(hk:VR E k a)(n:Nat) :Instr.sameBits n a a=true:=by
 rcases fE hp hk with⟨i,kk,m,rfl,rfl,rfl⟩ | ⟨l,m,rfl,rfl,rfl⟩ | ⟨b,rfl,rfl,rfl⟩ <;>cases n<;>simp [Instr.sameBits,aU4]
theorem aEX {b:Type}{a:Array b}{i:Nat}{x:b}(h:a.toList[i]?=some x) :a[i]?=some x:=by simpa using h
theorem aG8 (r:Rel E h w.heap){t:TypeId}{x k v:AV}{s n:Value}{ok:Bool}(a:aD4 P h t x k ok=some v)(l:VR E x s)(hk:VR E k n) :
  ∃cv,(Instr.lookup t s n ok).run P w= .ok cv w∧VR E v cv:=by
 unfold aD4 at a;split at a
 · rename_i G J p;split at a
   · rename_i kd z c hz;cases f:plainKey kd k with
     |false=>rw [f]at a;cases a
     | true =>
      rw [f]at a;simp only [cond]at a;obtain⟨j,B,g⟩ :=iT hz;have d:∀e,(Instr.checkKey e 10000 G n).run P w= .ok () w:=fun e=>run_checkKey e 9999 c f hk;split at a
      · cases a;simp only [VR]at l;subst l;refine⟨if ok then .tuple #[j,.bool false]else j,?_,?_⟩
        ·simp [Instr.lookup,aB p,d,Instr.findKey,aB c,Instr.findNow,B]
        · cases ok
          ·exact g E
          ·simp only [VR,if_true];exact⟨_,rfl,VRs.cons (g E) (VRs.cons (by simp [VR]) (VRs.nil E))⟩
      · rename_i m;simp only [VR]at l;obtain⟨L,hE,rfl⟩ :=l;split at a
        · rename_i H o hm;obtain⟨K,y,M,D,C⟩ :=r.obj _ _ hm;rw [hE]at y;cases y;split at a
          · rename_i i u q;cases a;have b:=lC f hk C q;simp only at b;obtain⟨e,I,_,_,_,F,A,_⟩ :=b;refine⟨if ok then .tuple #[e.val,.bool true]else e.val,?_,?_⟩
            ·simp [Instr.lookup,aB p,eR D,d,Instr.findKey,aB c,F]
            · cases ok
              ·exact A
              ·simp only [VR,if_true];exact⟨_,rfl,VRs.cons A (VRs.cons (by simp [VR]) (VRs.nil E))⟩
          · rename_i q;cases a;have b:=lC f hk C q;simp only at b;refine⟨if ok then .tuple #[j,.bool false]else j,?_,?_⟩
            ·simp [Instr.lookup,aB p,eR D,d,Instr.findKey,aB c,b,B]
            · cases ok
              ·exact g E
              ·simp only [VR,if_true];exact⟨_,rfl,VRs.cons (g E) (VRs.cons (by simp [VR]) (VRs.nil E))⟩
          ·cases a
        ·cases a
      ·cases a
   ·cases a
 ·cases a
theorem aEY {m:Nat}{L:Loc}{f b:List (AV×AV×Nat)}{a clock':Nat}{g ES':Array MapEntry}(r:Rel E h w.heap)(hm:h.look m=some (.map f a))(hE:E m=some L)
  (d:w.heap[L.blk]?=some (.map g a)) (he:ERs E b ES'.toList) :
  (∀P,(setObj L.blk (.map ES' clock')).run P w= .ok () (cE w L.blk (.map ES' clock'))) ∧Rel E (h.set m (.map b clock')) (cE w L.blk (.map ES' clock')).heap ∧
   Ext E h w E (h.set m (.map b clock')) (cE w L.blk (.map ES' clock')) :=by
 have:=r.setObj (o':=.map b clock') (.map ES' clock') hm hE rfl rfl (fun i c=> ⟨ES',c,he⟩);exact⟨fun P=>pU d (fun _ _ _ e=>by cases e),this.1,this.2⟩
theorem rR {b:Type}(a:Array b)(i:Nat)(f:b→b) : (a.modify i f).toList=a.toList.modify i f:=by simp
theorem sJ (r:Rel E h w.heap){t:TypeId}{x k v:AV}{F g cv:Value}(a:pO P h t x k v=some h')(B:VR E x F)(hk:VR E k g)(D:VR E v cv) :
  ∃w',(Instr.mapUpdate t F g cv).run P w= .ok () w'∧Rel E h' w'.heap∧Ext E h w E h' w':=by
 unfold pO at a;split at a
 · rename_i I K m A;split at a
   · rename_i kd O b d hm;cases f:plainKey kd k with
     |false=>rw [f]at a;cases a
     | true=>
      rw [f]at a;simp only [cond]at a;simp only [VR]at B;obtain⟨L,hE,rfl⟩ :=B;obtain⟨N,z,C,n,l⟩ :=r.obj _ _ hm;rw [hE]at z;cases z;have j:∀e,(Instr.checkKey e 10000 I g).run P w= .ok () w:=fun e=>run_checkKey e 9999 d f hk;split at a
      · rename_i i u s;cases a;have c:=lC f hk l s;simp only [Nat.sub_zero]at c;obtain⟨e,Q,_,_,H,J,M,_,G⟩ :=c;have o:=aEX H;obtain⟨q,p,y⟩ :=aEY (clock':=b) (ES':=C.modify i fun e=>{e with key:=g,val:=cv}) r hm hE n (by rw [rR];exact l.setE hk D i _ (fun _ _=>rfl));refine⟨_,?_,p,y⟩;simp [Instr.mapUpdate,aB A,eR n,j,Instr.findKey,aB d,J,Instr.keyThatStays,o,G,wN f hk,q P]
      · rename_i s;cases a;have c:=lC f hk l s;simp only at c;obtain⟨q,p,y⟩ :=aEY (clock':=b+1) (ES':=C.push {key:=g,val:=cv,born:=b}) r hm hE n (by rw [Array.toList_push];exact l.snoc hk D);refine⟨_,?_,p,y⟩;simp [Instr.mapUpdate,aB A,eR n,j,Instr.findKey,aB d,c,q P]
      ·cases a
   ·cases a
 ·cases a
theorem aD0 (r:Rel E h w.heap){t:TypeId}{x k v:AV}{M g:Value}(a:yN P h t x k=some (v,h'))(I:VR E x M)(hk:VR E k g) :
  ∃K w',(Instr.mapEntry t M g).run P w= .ok K w'∧VR E v K∧Rel E h' w'.heap∧Ext E h w E h' w':=by
 unfold yN at a;split at a
 · rename_i R T m H;split at a
   · rename_i kd Q b z d hm hz;cases f:plainKey kd k with
     |false=>rw [f]at a;cases a
     | true=>
      rw [f]at a;simp only [cond]at a;simp only [VR]at I;obtain⟨L,hE,rfl⟩ :=I;obtain⟨U,C,J,o,n⟩ :=r.obj _ _ hm;rw [hE]at C;cases C;obtain⟨G,O,F⟩ :=iT hz;have l:∀e,(Instr.checkKey e 10000 R g).run P w= .ok () w:=fun e=>run_checkKey e 9999 d f hk;split at a
      · rename_i i u A;cases a;have c:=lC f hk n A;simp only [Nat.sub_zero]at c;obtain⟨e,W,_,_,y,S,D,_,N⟩ :=c;have p:=aEX y
        obtain⟨s,q,B⟩ :=aEY (clock':=b) (ES':=J.modify i fun e=>{e with key:=g}) r hm hE o (by
         rw [rR];exact n.setE hk D i _ (fun V j=>by rw [y]at j;cases j;rfl))
        refine⟨.tuple #[e.val,.int .i64 (aEO Q i)],_,?_,by simp only [VR];exact⟨_,rfl,VRs.cons D (VRs.cons (by simp [VR]) (VRs.nil E))⟩,q,B⟩;simp [Instr.mapEntry,aB H,eR o,l,Instr.findKey,aB d,S,Instr.keyThatStays,p,N,wN f hk,s P,goInt,aSr n i e y]
      · rename_i A;cases a;have c:=lC f hk n A;simp only at c;obtain⟨s,q,B⟩ :=aEY (clock':=b+1) (ES':=J.push {key:=g,val:=G,born:=b}) r hm hE o (by rw [Array.toList_push];exact n.snoc hk (F E));refine⟨.tuple #[G,.int .i64 b],_,?_,by simp only [VR];exact⟨_,rfl,VRs.cons (F E) (VRs.cons (by simp [VR]) (VRs.nil E))⟩,q,B⟩;simp [Instr.mapEntry,aB H,eR o,l,Instr.findKey,aB d,c,s P,O,goInt]
      ·cases a
   ·cases a
 ·cases a
theorem aEZ {v:AV}{cv:Value}(l:VR E v cv){b:Nat}:∀ {h d:List (AV×AV×Nat)} {f:List MapEntry},ERs E h f→yM v b h=some d →
  ∃i,f.findIdx? (fun e=> (e.born:Int) == (b:Int)) =some i∧ERs E d (f.modify i fun e=>{e with val:=cv})
 | [],d,f,he,c=>by simp [yM]at c
 | a :: h,d,f,he,c=>by
  simp only [ERs]at he;obtain⟨u,m,rfl,k,n,g,j⟩ :=he;simp only [yM,bM]at c;by_cases hb:a.2.2=b
  · simp only [hb,decide_true,cond]at c;cases c;refine⟨0,by simp [List.findIdx?_cons,g,hb],?_⟩;simp only [List.modify_zero_cons,ERs];exact⟨_,m,rfl,k,l,by simp [g,hb],j⟩
  · simp only [hb,decide_false,cond]at c;split at c
    · rename_i r hr;cases c;obtain⟨i,o,p⟩ :=aEZ l j hr;refine⟨i+1,?_,?_⟩
      · have: ((u.born:Int) == (b:Int)) =false:=by rw [g];simp;omega
        simp [List.findIdx?_cons,this,o]
      · simp only [List.modify_succ_cons,ERs];exact⟨u,_,rfl,k,n,g,p⟩
    ·cases c
theorem aBk (r:Rel E h w.heap)(t:TypeId){x s v:AV}{q cs cv:Value}(a:qO h x s v=some h')(o:VR E x q)(l:VR E s cs)(C:VR E v cv) :
  ∃w',(Instr.entryStore t q cs cv).run P w= .ok () w'∧Rel E h' w'.heap∧Ext E h w E h' w':=by
 unfold qO at a;split at a
 · rename_i m k n;split at a
   · rename_i I;split at a
     · rename_i H b hm;split at a
       · rename_i B d;cases a;simp only [VR]at o l;subst l;obtain⟨L,hE,rfl⟩ :=o;obtain⟨G,j,c,p,D⟩ :=r.obj _ _ hm;rw [hE]at j;cases j;obtain⟨i,u,z⟩ :=aEZ C D d;have f: ((n.toNat:Nat) :Int) =n:=by omega
         rw [f]at u;obtain⟨y,F,A⟩ :=aEY (clock':=b) (ES':=c.modify i fun e=>{e with val:=cv}) r hm hE p (by rw [rR];exact z);refine⟨_,?_,F,A⟩;have g:c.findIdx? (fun e=> (e.born:Int) ==n) =some i:=by cases c;simpa using u
         simp [Instr.entryStore,eR p,asInt,asIntOf,g,y P]
       ·cases a
     ·cases a
   ·cases a
 ·cases a
inductive Adds (P:Program) (w:World) (at1:TypeId) (e:TypeId) (sz:Nat) :Value→List Value→Nat→Prop
 | slice (a:Addr) (n c:Nat) (us:List Value) (d:TypeDesc) (hd:P.underlying at1=some d) (hi:∀k,d≠ .int k) (hl:∀w1:World,w1.heap=w.heap→ (loadCells a (n*sz)).run P w1= .ok ⟨us⟩ w1) :
   Adds P w at1 e sz (.slice (some a) n c) us n
 |nil (d:TypeDesc) (hd:P.underlying at1=some d) (hi:∀k,d≠ .int k) :Adds P w at1 e sz (.slice none 0 0) [] 0
 | zeros (l:Int) (n:Nat) (z:Value) (k:IntKind) (inf:TypeInfo) (us:List Value) (hd:P.underlying at1=some (.int k)) (hl:l= (n:Int)) (hn:n<100000) (hi:P.info? e=some inf) (hb:inf.bytes≤1000)
   (hz:∀w,(zeroValue e).run P w= .ok z w) (hus:us= (Builtin.zeroCells z.cells n).toList) (hs:z.cells.size=sz) (h1:1≤sz) :Adds P w at1 e sz (.int .i64 l) us n
theorem wrap_small {n:Nat}(h:n<100000) :IntKind.i64.wrap (n:Int) =n:=by
 simp [IntKind.wrap,IntKind.bits,IntKind.signed];omega
set_option maxRecDepth 100000 in
theorem run_append_room {b:Array TypeId}{ty st t e:TypeId}{sz len cap n:Nat}{base:Option Addr}{cx:Value}{us:List Value}(hA:Adds P w t e sz cx us n)
  (j:b[0]?=some st) (h1:b[1]?=some t) (v:P.underlying st=some (.slice e)) (x:aY P e=some sz) (g:len+n≤cap)
  (f:match base with|some a=> (storeCells (a.add (len*sz)) us).run P w= .ok () w'|none=>w'=w) :
  (Builtin.append_ b ty #[.slice base len cap,cx]).run P w= .ok (.slice base (len+n) cap) w':=by
 have u: (#[Value.slice base len cap,cx] :Array Value)[0]?=some (.slice base len cap) :=rfl;have B: (#[Value.slice base len cap,cx] :Array Value)[1]?=some cx:=rfl;unfold Builtin.append_;cases hA with
 | slice a n c us d o A hl=>
  have:=hl w rfl;simp only [j,h1,u,B,Sem.run_bind,aB v,bY x,aB o,Result.andThen_ok,Sem.run_pure,rN,if_false,if_true,Builtin.lenOf,Builtin.firstCells,g,Bool.not_false,this];cases base with
  |none=>simp only at f;subst f;simp only [Sem.run_pure]
  |some a=>simp only at f;simp only [Sem.run_bind,f,Result.andThen_ok,Sem.run_pure]
 | nil d o A=>
  simp only [j,h1,u,B,Sem.run_bind,aB v,bY x,aB o,Result.andThen_ok,Sem.run_pure,rN,if_false,if_true,Builtin.lenOf,Builtin.firstCells,g,Bool.not_false];cases base with
  |none=>simp only at f;subst f;simp only [Sem.run_pure]
  |some a=>simp only at f;simp only [Sem.run_bind,f,Result.andThen_ok,Sem.run_pure]
 | zeros l n z k i us o hl D A hb hz p C H=>
  subst hl;have F:=wrap_small D;have r:¬ ((n:Int) <0) :=by omega
  have s:¬ ((n:Int) * (i.bytes:Int) >2 ^ 48) :=by
   have G:n*i.bytes≤100000*1000:=mul_le_mul (by omega) hb;rw [←Int.natCast_mul];generalize n*i.bytes=q at G;omega
  simp only [j,h1,u,B,Sem.run_bind,aB v,bY x,aB o,Result.andThen_ok,Sem.run_pure];simp only [if_true,Sem.run_bind,aCy,Result.andThen_ok];simp only [F,r,if_false];simp only [Sem.run_bind,dI A,Result.andThen_ok];rw [if_neg s];simp only [Sem.run_bind,Sem.run_pure,Result.andThen_ok,kZ];rw [if_pos g];simp only [Bool.not_true,rN,if_false,Sem.run_bind];have m: (if n*sz=0 then pure #[]else do let __do_lift ←zeroValue e;pure (Builtin.zeroCells __do_lift.cells n) :Sem (Array Value)).run P w= .ok ⟨us⟩ w:=by
   by_cases j:n*sz=0
   · have y:n=0:=by
      rcases Nat.mul_eq_zero.1 j with h|h
      ·exact h
      ·omega
     subst y;have:us= [] :=by rw [p];simp [Builtin.zeroCells]
     subst this;simp
   ·simp only [j,if_false,Sem.run_bind,hz,Result.andThen_ok,Sem.run_pure,p]
  simp only [m,Result.andThen_ok];cases base with
  |none=>simp only at f;subst f;simp only [Sem.run_pure]
  |some a=>simp only at f;simp only [Sem.run_bind,f,Result.andThen_ok,Sem.run_pure]
theorem aHy (n:Nat) :∀ (r c:Nat),c≤n→Builtin.growBy n r c≤2*n+1000
 |0,c,h=>by simp [Builtin.growBy];omega
 | r+1,c,h=>by
  simp only [Builtin.growBy];split
  ·omega
  · by_cases a:c+ (c+768) / 4≤n
    ·exact aHy n r _ a
    · cases r with
      |zero=>simp [Builtin.growBy];omega
      |succ r=>simp only [Builtin.growBy];rw [if_pos (by omega)];omega
theorem aN3 {need cap:Nat}(h:cap<need) :Builtin.nextslicecap need cap≤2*need+1000:=by
 unfold Builtin.nextslicecap;split
 ·omega
 · split
   ·omega
   ·exact aHy need 4 cap (by omega)
set_option maxRecDepth 100000 in
set_option maxHeartbeats 1000000 in
theorem run_append_grow {f:Array TypeId}{ty st F e:TypeId}{sz len cap n:Nat}{base:Option Addr}{cx:Value}{us os:List Value}(hA:Adds P w F e sz cx us n){z:AV}(hz:zeroOf P e=some z)
  {g:TypeInfo} (b:P.info? e=some g) (hb1:1≤g.bytes) (T:g.bytes≤1000)
  (x:f[0]?=some st) (h1:f[1]?=some F) (M:P.underlying st=some (.slice e)) (R:aY P e=some sz) (r:¬len+n≤cap) (hsm:len+n≤3000000)
  (G:∀O:World,O.heap=w.heap→ (Builtin.firstCells sz len (.slice base len cap)).run P O= .ok ⟨os⟩ O) :
  ∃ i s d,len+n≤i∧s.length= (i- (len+n)) *z.cells.length ∧
   (Builtin.append_ f ty #[.slice base len cap,cx]).run P w= .ok (.slice (some ⟨w.heap.size,0,none⟩) (len+n) i) {w with drawn:=d,heap:=w.heap.push (.cells ⟨os++us++s⟩ e)}:=by
 have L: (#[Value.slice base len cap,cx] :Array Value)[0]?=some (.slice base len cap) :=rfl;have I: (#[Value.slice base len cap,cx] :Array Value)[1]?=some cx:=rfl;obtain⟨V,J,z2⟩ :=iT hz;have K:V.cells.size=z.cells.length:=by have:= (z2 ⟨fun _=>none,fun _=>none⟩).cells.length;simpa using this
 have hng:Builtin.nextslicecap (len+n) cap*g.bytes≤2 ^ 48:=by
  have I:=aN3 (need:=len+n) (cap:=cap) (by omega);have e2:Builtin.nextslicecap (len+n) cap*g.bytes≤6001000*1000:=mul_le_mul (by omega) T;omega
 have o:¬Builtin.nextslicecap (len+n) cap*g.bytes>2 ^ 48:=by omega
 have A:¬g.bytes=0:=by omega
 have U:¬ (((len+n:Nat) :Int) >IntKind.i64.max) :=by simp [IntKind.max,IntKind.signed,IntKind.bits];omega
 have hq: (Question.appendCap (len+n) cap e).forced=false:=rfl;obtain⟨d,Y⟩ :∃d,d=w.drawn+1:= ⟨_,rfl⟩;obtain⟨nc,D⟩ :∃nc,nc= (Question.appendCap (len+n) cap e).cut (w.tape w.drawn (.appendCap (len+n) cap e)) := ⟨_,rfl⟩;have Q:len+n≤nc:=by rw [D];simp only [Question.cut];omega
 have v: (choose (.appendCap (len+n) cap e)).run P w= .ok nc {w with drawn:=d}:=by
  simp only [run_choose,hq,D,Y];rfl
 have u:∀ (us:List Value) (X:Array Value),(⟨os⟩ ++ ⟨us⟩ ++X:Array Value) = ⟨os++us++X.toList⟩ :=fun us X=>by apply Array.ext';simp
 have m:=G {w with drawn:=d} rfl;refine⟨nc,(Builtin.zeroCells V.cells (nc- (len+n))).toList,d,Q,by simp [Builtin.zeroCells,K],?_⟩;unfold Builtin.append_;cases hA with
 | slice a n c us t p H hl=>
  have j: (Builtin.firstCells sz n (Value.slice (some a) n c)).run P {w with drawn:=d}= .ok ⟨us⟩ {w with drawn:=d}:=by simpa [Builtin.firstCells]using hl {w with drawn:=d} rfl
  simp only [x,h1,L,I,Sem.run_bind,aB M,bY R,aB p,Result.andThen_ok,Sem.run_pure,rN,if_false,Builtin.lenOf];rw [if_neg r];simp only [Sem.run_bind,dI b,Result.andThen_ok];rw [if_neg (fun h=>by rcases h.2 with h|h<;>first|exact A h|cases h)];simp only [Sem.run_bind,dI b,Result.andThen_ok];rw [if_neg o];simp only [Sem.run_bind,v,Result.andThen_ok,dI b,run_askRoom,m,Bool.not_false,if_true,j,J,newRow,run_newObj,Sem.run_pure,u]
 | nil t p H=>
  simp only [x,h1,L,I,Sem.run_bind,aB M,bY R,aB p,Result.andThen_ok,Sem.run_pure,rN,if_false,Builtin.lenOf];rw [if_neg r];simp only [Sem.run_bind,dI b,Result.andThen_ok];rw [if_neg (fun h=>by rcases h.2 with h|h<;>first|exact A h|cases h)];simp only [Sem.run_bind,dI b,Result.andThen_ok];rw [if_neg o];have j: (Builtin.firstCells sz 0 (Value.slice none 0 0)).run P {w with drawn:=d}= .ok ⟨[]⟩ {w with drawn:=d}:=by simp [Builtin.firstCells]
  simp only [Sem.run_bind,v,Result.andThen_ok,dI b,run_askRoom,m,Bool.not_false,if_true,j,J,newRow,run_newObj,Sem.run_pure,u]
 | zeros l n z' k W us p hl hn H hb N y Z h1'=>
  subst hl;rw [b]at H;cases H;have hw:=wrap_small hn;have B:¬ ((n:Int) <0) :=by omega
  have C:¬ ((n:Int) * (g.bytes:Int) >2 ^ 48) :=by
   have h3:n*g.bytes≤100000*1000:=mul_le_mul (by omega) hb;rw [←Int.natCast_mul];generalize n*g.bytes=q at h3;omega
  have j:∀w,(if n*sz=0 then pure #[]else do let __do_lift ←zeroValue e;pure (Builtin.zeroCells __do_lift.cells n) :Sem (Array Value)).run P w= .ok ⟨us⟩ w:=fun w=>by
   by_cases x:n*sz=0
   · have S:n=0:=by
      rcases Nat.mul_eq_zero.1 x with h|h
      ·exact h
      ·omega
     subst S;have:us= [] :=by rw [y];simp [Builtin.zeroCells]
     subst this;simp
   ·simp only [x,if_false,Sem.run_bind,N,Result.andThen_ok,Sem.run_pure,y]
  simp only [x,h1,L,I,Sem.run_bind,aB M,bY R,aB p,Result.andThen_ok,Sem.run_pure];simp only [if_true,Sem.run_bind,aCy,Result.andThen_ok];simp only [hw,B,if_false];simp only [Sem.run_bind,dI b,Result.andThen_ok];rw [if_neg C];simp only [Sem.run_bind,Sem.run_pure,Result.andThen_ok,kZ];rw [if_neg r];simp only [Sem.run_bind,dI b,Result.andThen_ok];rw [if_neg (fun h=>U h.1)];simp only [Sem.run_bind,dI b,Result.andThen_ok];rw [if_neg o];simp only [Sem.run_bind,v,Result.andThen_ok,dI b,run_askRoom,m,Bool.not_true,rN,if_false,j,J,newRow,run_newObj,Sem.run_pure,u]
theorem aLi (r:Rel E h w.heap){c:Array TypeId}{e:TypeId}{sz n:Nat}{x:AV}{J:Value}{y:List AV}(a:aBg P h c e sz x=some (y,n))(p:VR E x J)
  {j:TypeInfo} (s:P.info? e=some j) (hb:j.bytes≤1000) (h1:1≤sz) :
  ∃u m,c[1]?=some u∧Adds P w u e sz J m n∧VRs E y m∧m.length=n*sz:=by
 unfold aBg at a;split at a
 ·cases a
 · rename_i v g;split at a
   · rename_i k l o;split at a
     · rename_i hl;split at a
       · rename_i z hz;cases hc: (beq z.cells.length sz&& !(beq sz 0))with
         |false=>rw [hc]at a;cases a
         | true=>
          rw [hc]at a;simp only [cond]at a;cases a;simp only [bM,cP,decide_eq_true_eq]at hc;obtain⟨H,M,F⟩ :=iT hz;have A:= (F E).cells.length;simp only [Array.length_toList]at A;simp only [VR]at p;subst p;have q:H.cells.size=sz:=by omega
          refine⟨v,_,g,.zeros l l.toNat H k j _ o (by omega) (by omega) s hb M rfl q h1,aCz (F E).cells _ (by omega),by simp [Builtin.zeroCells,q]⟩
       ·cases a
     ·cases a
   ·cases a
   · rename_i d i o;cases a;simp only [VR]at p;subst p;exact⟨v,[],g,.nil d o (fun k e=>by subst e;exact i k rfl),VRs.nil E,by simp⟩
   · rename_i d b T len O B V i o;cases hc:beq B sz with
     |false=>rw [hc]at a;cases a
     | true =>
      rw [hc]at a;simp only [cond]at a;have:=fQ hc;subst this;split at a
      · rename_i m f;cases a;simp only [VR]at p;obtain⟨L,G,t,hE,rfl,W,Z,X,N,Y⟩ :=p;by_cases K:t=0
        · have D:n=0:=by omega
          subst D;have C:y= [] :=by
           unfold Hp.loadN at f;split at f
           ·simp [getCells]at f;exact f
           ·cases f
          subst C;exact⟨v,[],g,.slice _ _ _ _ d o (fun k e=>by subst e;exact i k rfl) (fun I _=>by simp [loadCells,loadCellsFrom]),VRs.nil E,by simp⟩
        · obtain⟨m,U,R,S⟩ :=wI r f hE;have:=N K;subst this;exact⟨v,m,g,.slice _ _ _ _ d o (fun k e=>by subst e;exact i k rfl) (fun I Q=>U P I Q),R,S⟩
      ·cases a
   ·cases a
theorem Rel.inplace (r:Rel E h w.heap){b off m k:Nat}{t T':T AV}{older:List Nat}(hb:h.look b=some (.cells t k older false)){L:Loc}(hE:E b=some L)
  {Q:List AV} {us:List Value} (hv:VRs E Q us) (O:dE Q=true) (hk:k≤off+m) (hfit:L.sh+off+m+Q.length≤L.sz)
  (hT:∀i a,T'.at i=some a→i<m+Q.length∧ (if i<m then t.at (off+i) =some a else Q[i-m]?=some a)) (e:Nat) (he:e=L.sh+off+m) :
  ∃ w',(∀P,(storeCells ⟨L.blk,e,none⟩ us).run P w= .ok () w') ∧
   Rel (E.put h.nb ⟨L.blk,L.sh+off,L.sz⟩) ((h.set b (.cells t k older true)).new (.cells T' (m+Q.length) (b::older) false)) w'.heap ∧
   Ext E h w (E.put h.nb ⟨L.blk,L.sh+off,L.sz⟩) ((h.set b (.cells t k older true)).new (.cells T' (m+Q.length) (b::older) false)) w':=by
 subst he;obtain⟨L',g1,C,e,I,g3,g4⟩ :=r.obj _ _ hb;rw [hE]at g1;cases g1;have hf:E h.nb=none:=r.fresh _ (le_refl _);have hbn:b≠h.nb:=fun e=>by rw [e,hf]at hE;cases hE
 have M:E.le (E.put h.nb ⟨L.blk,L.sh+off,L.sz⟩) :=Emb.le_put hf;have hul:=hv.length
 have z:∀ {x ox g},h.look x=some ox→E x=some g→x≠b→Own ox g L.blk→x∈older∧jL ox=true∧g.sh+nOf ox≤L.sh+k:=fun A hEx J d=>by
  rcases r.kin _ _ _ _ _ _ hb A hE hEx ⟨_,rfl,d⟩ (fun e=>J e.symm)with F| ⟨_,F,_⟩
  ·exact F
  ·cases F
 have K:∀ {ox:AObj} {g:Loc},jL ox=true→g.sh+nOf ox≤L.sh+k→Own ox g L.blk→OR E w.heap g ox→OR (E.put h.nb ⟨L.blk,L.sh+off,L.sz⟩) (cE w L.blk (.cells (over C (L.sh+off+m) us) e (0,0))).heap g ox:=by
  intro ox g N hn d O;cases ox with
  |zone w0 r0 Z=>cases N
  | cells tx nx j sx=>
   have d:g.blk=L.blk:=d;obtain⟨C',e',o,k3,k4⟩ :=O;rw [d,I]at o;cases o;refine⟨_,e,by rw [d];exact pT I,by rw [mV];exact k3,fun i a ha=>?_⟩;obtain⟨q0,v,S,q2⟩ :=k4 i a ha;refine⟨q0,v,?_,q2.mono M⟩;simp only [nOf]at hn;rw [mA _ _ _ _ (by omega),if_neg (by omega)];exact S
  |map es c=>have d:g.blk=L.blk:=d;obtain⟨ES,o,_⟩ :=O;rw [d,I]at o;cases o
  |siter l n p=>have d:g.blk=L.blk:=d;obtain⟨o,_⟩ :=O;rw [d,I]at o;cases o
  |loop st pe fn tm nt ps aS bd df=>have d:g.blk=L.blk:=d;obtain⟨_,_,o,_⟩ :=O;rw [d,I]at o;cases o
  |defd tk=>have d:g.blk=L.blk:=d;simp only [OR]at O;rw [d,I]at O;cases O
  |lst ee xs=>cases N
  |lstv u ee xs=>cases N
  |miter m s l n=>have d:g.blk=L.blk:=d;obtain⟨_,o,_⟩ :=O;rw [d,I]at o;cases o
  |mapx es c k v=>have d:g.blk=L.blk:=d;obtain⟨ES,o,_⟩ :=O;rw [d,I]at o;cases o
 have hks:∀x ox,((h.set b (.cells t k older true)).new (.cells T' (m+Q.length) (b::older) false)).look x=some ox→x=h.nb∨∃o0,h.look x=some o0:=fun x ox e=>by
  rw [cS,jM]at e;split at e
  ·rename_i A;exact .inl A
  · rw [aZ]at e;split at e
    ·rename_i A;subst A;exact .inr ⟨_,hb⟩
    ·exact .inr ⟨ox,e⟩
 refine⟨cE w L.blk (.cells (over C (L.sh+off+m) us) e (0,0)),fun P=>?_,⟨?_,?_,?_,r.imm_put hb hE _,?_,fun x ox e=>by
  rw [oM,jM];rcases hks x ox e with rfl| ⟨o0,e0⟩
  ·omega
  ·have:=r.keys x o0 e0;omega⟩,⟨M,by simp [cE],?_,?_,by simp [oM,jM],rfl,rfl,rfl,fun x A=>Emb.put_ne _ _ (by omega),(fun a _=>tN I rfl rfl a),fun _ _ e _=>.inl e,fun x ox e A=> (hks x ox e).resolve_left (by omega)⟩⟩
 · have:=mB (P:=P) us (w:=w) (b:=L.blk) (k:=L.sh+off+m) (i:=0) I (by omega) (hv.ones O);simpa using this
 · intro x ox f;rw [cS,jM]at f;split at f
   · rename_i A;cases f;subst A;refine .inr ⟨_,Emb.put_same _ _ _,over C (L.sh+off+m) us,e,pT I,by rw [mV];exact g3,fun i a ha=>?_⟩;obtain⟨q0,S⟩ :=hT i a ha;refine⟨q0,?_⟩;by_cases D:i<m
     · rw [if_pos D]at S;obtain⟨_,v,p1,p2⟩ :=g4 _ _ S;refine⟨v,?_,p2.mono M⟩;rw [mA _ _ _ _ (by omega),if_neg (by simp only;omega)];rw [←p1];congr 1;simp only;omega
     · rw [if_neg D]at S;obtain⟨v,p1,p2⟩ :=hv.get _ _ S;refine⟨v,?_,p2.mono M⟩;rw [mA _ _ _ _ (by omega),if_pos (by simp only;omega)];rw [←p1];congr 1;simp only;omega
   · rename_i A;rw [aZ]at f;split at f
     · rename_i R;cases f;subst R;refine .inr ⟨L,by rw [Emb.put_ne _ _ A];exact hE,?_⟩;exact K (ox:=.cells t k older true) rfl (by simp [nOf]) rfl ⟨C,e,I,g3,g4⟩
     · rename_i R;rcases r.obj0 x ox f with⟨u1,u2⟩ | ⟨g,k1,o⟩
       ·exact .inl ⟨u1,by rw [Emb.put_ne _ _ A];exact u2⟩
       refine .inr ⟨g,by rw [Emb.put_ne _ _ A];exact k1,?_⟩;by_cases d:Own ox g L.blk
       ·exact K (z f k1 R d).2.1 (z f k1 R d).2.2 d o
       ·exact(o.mono M).heap fun i D=>by simp only [cE];rw [tJ (fun e:L.blk=i=>d (by rw [e];exact D))]
 · intro x y ox X g Ly f q j G d J;rw [cS,jM]at f q;have B:∀ {y X Ly},y≠h.nb→ (h.set b (.cells t k older true)).look y=some X→E y=some Ly→Own X Ly L.blk→y∈b::older∧jL X=true∧Ly.sh+nOf X≤L.sh+off+ (m+Q.length) :=by
    intro y X Ly W q G d;rw [aZ]at q;split at q
    · rename_i U;cases q;subst U;rw [hE]at G;cases G;exact⟨cQ ..,rfl,by simp [nOf];omega⟩
    · rename_i U;obtain⟨S,q2,q3⟩ :=z q G U d;exact⟨cH _ S,q2,by omega⟩
   by_cases H:x=h.nb
   · subst H;have W:y≠h.nb:=fun e=>J e.symm;rw [if_pos rfl]at f;cases f;rw [if_neg W]at q;rw [Emb.put_same]at j;cases j;rw [Emb.put_ne _ _ W]at G;obtain⟨i,V,Y⟩ :=d;obtain rfl:L.blk=i:=V;exact .inl (B W q G Y)
   · rw [if_neg H]at f;rw [Emb.put_ne _ _ H]at j;by_cases F:y=h.nb
     · subst F;rw [if_pos rfl]at q;cases q;rw [Emb.put_same]at G;cases G;obtain⟨i,V,Y⟩ :=d;obtain rfl:L.blk=i:=Y;exact .inr (B H f j V)
     · rw [if_neg F]at q;rw [Emb.put_ne _ _ F]at G;rw [aZ]at f q;by_cases h3:x=b
       · subst h3;have W:y≠x:=fun e=>J e.symm;rw [if_pos rfl]at f;cases f;rw [if_neg W]at q;rw [hE]at j;cases j;obtain⟨i,V,Y⟩ :=d;obtain rfl:L.blk=i:=V;exact .inl (z q G W Y)
       · rw [if_neg h3]at f;by_cases h4:y=b
         · subst h4;rw [if_pos rfl]at q;cases q;rw [hE]at G;cases G;obtain⟨i,V,Y⟩ :=d;obtain rfl:L.blk=i:=Y;exact .inr (z f j h3 V)
         · rw [if_neg h4]at q;exact r.kin x y ox X g Ly f q j G d J
 · intro x A;rw [oM,jM]at A;rw [Emb.put_ne _ _ (by omega)];exact r.fresh x (by omega)
 · intro x ox g f j i D;show E.imm i=none;rw [cS,jM]at f;by_cases H:x=h.nb
   · subst H;rw [if_pos rfl]at f;cases f;rw [Emb.put_same]at j;cases j;exact r.apart b _ L hb hE i D
   · rw [if_neg H,aZ]at f;rw [Emb.put_ne _ _ H]at j;by_cases F:x=b
     ·subst F;rw [if_pos rfl]at f;cases f;exact r.apart x _ g hb j i D
     ·rw [if_neg F]at f;exact r.apart x ox g f j i D
 · intro i D hno;simp only [cE];rw [tJ (hno b _ L hb hE)]
 · intro x ox g f j i D hlt;rw [cS,jM]at f;by_cases H:x=h.nb
   · subst H;rw [if_pos rfl]at f;cases f;rw [Emb.put_same]at j;cases j;exact⟨b,_,L,hb,hE,D⟩
   · rw [if_neg H,aZ]at f;rw [Emb.put_ne _ _ H]at j;by_cases F:x=b
     ·subst F;rw [if_pos rfl]at f;cases f;rw [hE]at j;cases j;exact⟨x,_,L,hb,hE,D⟩
     ·rw [if_neg F]at f;exact⟨x,ox,g,f,j,D⟩
theorem Ext.drawn {E':Emb}(x:Ext E h w E' h' w')(d:Nat) :Ext E h w E' h' {w' with drawn:=d}:=
 ⟨x.le,x.size,x.keep,x.own,x.nb,x.os,x.tape,x.output,x.low,x.froz,x.immo,x.keys⟩
theorem aCA {sz len cap:Nat}{a:Addr}{os:List Value}(h:∀w1:World,w1.heap=w.heap→ (loadCells a (len*sz)).run P w1= .ok ⟨os⟩ w1) :
  ∀w1:World,w1.heap=w.heap→ (Builtin.firstCells sz len (.slice (some a) len cap)).run P w1= .ok ⟨os⟩ w1:=fun w1 b=>by
 simp only [Builtin.firstCells];exact h w1 b
theorem old_cells (r:Rel E h w.heap){b off m:Nat}{old:List AV}(hl:h.loadN b off m=some old){L:Loc}(hE:E b=some L){c a:Nat}(f:a≠0→c=L.sh+off)(g:a=0→m=0) :
  ∃e,(∀d:World,d.heap=w.heap→ (loadCells ⟨L.blk,c,none⟩ m).run P d= .ok ⟨e⟩ d) ∧VRs E old e∧e.length=m:=by
 by_cases hc:a=0
 · have hm:=g hc;subst hm;have:old= [] :=by
    unfold Hp.loadN at hl;split at hl
    ·simp [getCells]at hl;exact hl
    ·cases hl
   subst this;exact⟨[],fun d _=>by simp [loadCells,loadCellsFrom],VRs.nil E,rfl⟩
 · have:=f hc;subst this;obtain⟨e,k,i,j⟩ :=wI r hl hE;exact⟨e,fun d l=>k P d l,i,j⟩
theorem aSs {b off m:Nat}{old:List AV}(hl:h.loadN b off m=some old){t:T AV}{n:Nat}{k:List Nat}{s:Bool}(hb:h.look b=some (.cells t n k s)) :old.length=m∧∀j,j<m→t.at (off+j) =old[j]?:=by
 unfold Hp.loadN at hl;rw [hb]at hl;exact nP hl
theorem Rel.supersede (r:Rel E h w.heap){b k:Nat}{t:T AV}{older:List Nat}(hb:h.look b=some (.cells t k older false)) :
  Rel E (h.set b (.cells t k older true)) w.heap∧Ext E h w E (h.set b (.cells t k older true)) w:=by
 have d:∀ {x a},(h.set b (.cells t k older true)).look x=some a→∃c,h.look x=some c∧ (∀E H L,OR E H L c→OR E H L a) ∧bQ a=bQ c∧nOf a=nOf c∧ (jL c=true→jL a=true) ∧kN c=kN a∧∀L i,Own a L i→Own c L i:=by
  intro x a e;rw [aZ]at e;split at e
  ·rename_i q;cases e;subst q;exact⟨_,hb,fun _ _ _ h=>h,rfl,rfl,fun _=>rfl,rfl,fun _ _ h=>h⟩
  ·exact⟨a,e,fun _ _ _ h=>h,rfl,rfl,fun h=>h,rfl,fun _ _ h=>h⟩
 refine⟨⟨?_,?_,fun x q=>r.fresh x q,r.imm,?_,fun x a e=>by obtain⟨c,g,_⟩ :=d e;exact r.keys x c g⟩,⟨Emb.le.refl E,le_refl _,fun _ _ _=>rfl,?_,le_refl _,rfl,rfl,rfl,fun _ _=>rfl,fun _ _=>rfl,fun _ _ e _=>.inl e,fun x a e _=>by obtain⟨c,g,_⟩ :=d e;exact⟨c,g⟩⟩⟩
 · intro x a e;obtain⟨c,g,F,_,_,_,W,_⟩ :=d e;rcases r.obj0 x c g with⟨I,G⟩ | ⟨L,Y,N⟩
   ·exact .inl ⟨by rw [←W];exact I,G⟩
   exact .inr ⟨L,Y,F _ _ _ N⟩
 · intro x y a oy m R f Z j K p s;obtain⟨o,n,_,U,C,J,_,l⟩ :=d f;obtain⟨X,D,_,M,B,Q,_,V⟩ :=d Z;obtain⟨i,S,O⟩ :=p;rcases r.kin x y o X m R n D j K ⟨i,l _ _ S,V _ _ O⟩ s with⟨z,v,u⟩ | ⟨z,v,u⟩
   ·exact .inl ⟨by rw [U];exact z,Q v,by rw [C,B];exact u⟩
   ·exact .inr ⟨by rw [M];exact z,J v,by rw [C,B];exact u⟩
 · intro x a m f j i A;obtain⟨o,n,_,_,_,_,_,l⟩ :=d f;exact r.apart x o m n j i (l _ _ A)
 · intro x a m f j i A _;obtain⟨o,n,_,_,_,_,_,l⟩ :=d f;exact⟨x,o,m,n,j,l _ _ A⟩
set_option maxHeartbeats 1000000 in
theorem aappend_sound (r : Rel E h w.heap){j:Array TypeId}{ty:TypeId}{s x v:AV}{cs cx:Value}(g:aappend P h j s x=some (v,h'))(hs:VR E s cs)(hx:VR E x cx) :
  ∃cv w' K,(Builtin.append_ j ty #[cs,cx]).run P w= .ok cv w'∧VR K v cv∧Rel K h' w'.heap∧Ext E h w K h' w':=by
 unfold aappend at g;split at g
 ·cases g
 · rename_i st y;split at g
   · rename_i e Y;split at g
     · rename_i sz inf z B I hz;split at g
       ·cases g
       · rename_i vs n hadd;cases hc: (beq z.cells.length sz&&ble sz 40&&ble inf.bytes 1000&&ble 1 inf.bytes&&ble 1 sz&&dE vs&&ble n 1000000)with
         |false=>rw [hc]at g;cases g
         | true =>
          rw [hc]at g;simp only [cond]at g;simp only [jF,bM,cP,decide_eq_true_eq]at hc;obtain⟨⟨⟨⟨⟨⟨hzl,hs40⟩,W⟩,hb1⟩,hs1⟩,O⟩,hn6⟩ :=hc;obtain⟨at1,V,o,hA,A,Z⟩ :=aLi (P:=P) (w:=w) r hadd hx I W hs1;split at g
          · -- the nil slice
            simp only [VR]at hs;subst hs;cases D:beq n 0 with
            | true=>
             rw [D]at g;simp only [cond]at g;cases g;have:=fQ D;subst this;have U:V= [] :=zq35.1 (by omega);subst U;refine⟨.slice none 0 0,w,E,?_,by simp [VR],r,Ext.refl _ _ _⟩;exact run_append_room (base:=none) (len:=0) (cap:=0) (w':=w) hA y o Y B (by omega) rfl
            | false=>
             rw [D]at g;simp only [cond]at g;cases g;have hn0:n≠0:=fun e=>by subst e;cases D
             obtain⟨nc,l,d,k1,k2,k3⟩ :=run_append_grow (ty:=ty) (base:=none) (len:=0) (cap:=0) (os:=[]) hA hz I hb1 W y o Y B (by omega) (by omega) (fun w1 _=>by simp [Builtin.firstCells]);simp only [eM,List.nil_append]at k1 k2 k3;obtain⟨Q,M⟩ :=wL r A e l;refine⟨_,_,_,k3,qS w h _ n n sz nc false (le_refl _) k1 (fun e=>by cases e) ?_,Q,M.drawn d⟩;rw [vP,k2,Z,hzl,←add_mul];exact mul_le_mul_right _ (by omega)
          · rename_i b off len cap esz exact;cases hc: (beq esz sz&&ble len 1000000&&ble cap 1000000)with
            |false=>rw [hc]at g;cases g
            | true =>
             rw [hc]at g;simp only [cond]at g;simp only [jF,bM,cP,decide_eq_true_eq]at hc;obtain⟨⟨rfl,hlen6⟩,hcap6⟩ :=hc;simp only [VR]at hs;obtain⟨L,q,c,hE,rfl,g1,g2,g3,g4,g5⟩ :=hs;cases hr:ble (len+n) cap with
             | true =>
              rw [hr]at g;simp only [cond]at g;have p:=Nat.le_of_ble_eq_true hr;cases D:beq n 0 with
              | true=>
               rw [D]at g;simp only at g;cases g;have:=fQ D;subst this;have U:V= [] :=zq35.1 (by omega);subst U;refine⟨.slice (some ⟨L.blk,q,none⟩) len c,w,E,?_,?_,r,Ext.refl _ _ _⟩
               ·exact run_append_room (base:=some ⟨L.blk,q,none⟩) (len:=len) (cap:=c) (w':=w) hA y o Y B (by omega) rfl
               ·simp only [VR];exact⟨L,q,c,hE,rfl,g1,g2,g3,g4,g5⟩
              | false =>
               rw [D]at g;simp only at g;have hn0:n≠0:=fun e=>by subst e;cases D
               split at g
               · rename_i h2 u;cases g;unfold aHr at u;split at u
                 · rename_i t k older hb;cases u;have G:=g4 (by omega);subst G;have hvl:=A.length;have hm: (len+n) *esz≤c*esz:=mul_le_mul_right _ (by omega);rw [add_mul]at hm;obtain⟨w2,Q,M,q3⟩ :=r.write (off:=off+len*esz) hb hE A O (max k (off+len*esz+vs.length)) (Nat.le_max_left _ _) (fun _=>Nat.le_max_right _ _) (by omega);refine⟨.slice (some ⟨L.blk,L.sh+off,none⟩) (len+n) c,w2,E,?_,?_,M,q3⟩
                   · refine run_append_room (base:=some ⟨L.blk,L.sh+off,none⟩) (len:=len) (cap:=c) (w':=w2) hA y o Y B (by omega) ?_;simp only [fZ];rw [add_assoc];exact Q P
                   ·simp only [VR];exact⟨L,L.sh+off,c,hE,rfl,by omega,g2,g3,fun _=>rfl,g5⟩
                 ·cases u
               ·cases g
             | false =>
              rw [hr]at g;simp only [cond]at g;have hnroom:¬len+n≤cap:=fun e=>by rw [Nat.ble_eq_true_of_le e]at hr;cases hr
              have hn0:n≠0:=fun e=>by subst e;omega
              split at g
              ·cases g
              · rename_i old R;have hc0:c=0→len*esz=0:=fun e=>by rw [show len=0 by omega,Nat.zero_mul]
                obtain⟨os,o1,o2,o3⟩ :=old_cells (P:=P) r R hE g4 hc0
                have F:∀ (T':T AV) (N:Nat) (J:List Nat) (X:Hp),X.nb=h.nb→Rel E X w.heap→Ext E h w E X w→¬len+n≤c →
                  (∀i a,T'.at i=some a→i<N∧ (old++vs)[i]?=some a) →
                  ∃cv w' K,(Builtin.append_ j ty #[.slice (some ⟨L.blk,q,none⟩) len c,cx]).run P w= .ok cv w'∧VR K (.slice h.nb 0 (len+n) (len+n) esz false) cv∧Rel K (X.new (.cells T' N J false)) w'.heap∧Ext E h w K (X.new (.cells T' N J false)) w':=by
                 intro T' N J X hnb r1 x1 hno hT;obtain⟨nc,l,d,k1,k2,k3⟩ :=run_append_grow (ty:=ty) (base:=some ⟨L.blk,q,none⟩) (len:=len) (cap:=c) (os:=os) hA hz I hb1 W y o Y B hno (by omega) (aCA o1)
                 obtain⟨Q,M⟩ :=r1.new (.cells T' N J false) (.cells ⟨os++V++l⟩ e) (os++V++l).length (fun K H' hle _ hH=> ⟨⟨os++V++l⟩,e,hH,rfl,fun i a f=>by
                  obtain⟨p1,p2⟩ :=hT i a f;obtain⟨v,p3,p4⟩ := (o2.append A).get i a p2;refine⟨p1,v,?_,p4.mono hle⟩;have hlt:= (zq0.1 p3).1;simp only [eM];rw [show(⟨os++V++l⟩ :Array Value) = (os++V++l).toArray from rfl,List.getElem?_toArray,hP hlt];exact p3⟩)
                 rw [hnb]at Q M;refine⟨_,_,_,k3,?_,Q,x1.trans (M.drawn d)⟩;refine qS w h _ (len+n) (len+n) esz nc false (le_refl _) k1 (fun e=>by cases e) ?_;rw [vP,vP,k2,Z,hzl,o3,←add_mul,←add_mul];exact mul_le_mul_right _ (by omega)
                cases exact with
                | true=>
                 simp only at g;cases g;have hce:=g3 rfl
                 exact F _ _ _ h rfl r (Ext.refl _ _ _) (by omega) (fun i a f=>by
                  rw [bF]at f;split at f
                  ·rename_i S;exact⟨S,f⟩
                  ·cases f)
                | false =>
                 simp only at g;split at g
                 · rename_i t k older hb;cases hk:ble k (off+len*esz)with
                   |false=>rw [hk]at g;cases g
                   | true =>
                    rw [hk]at g;simp only at g;cases g;have hk':=Nat.le_of_ble_eq_true hk;obtain⟨ol,og⟩ :=aSs R hb;have hvl:=A.length;obtain⟨Lb,e1,C,ee,e2,e3,e4⟩ :=r.obj _ _ hb;rw [hE]at e1;cases e1;have hT :∀i a,(bif beq off 0 then putCells t (len*esz) vs else putCells .leaf 0 (old++vs)).at i=some a→i<len*esz+vs.length∧ (if i<len*esz then t.at (off+i) =some a else vs[i-len*esz]?=some a) :=by
                     intro i a f;rw [bM]at f;by_cases D:off=0
                     · subst D;simp only [decide_true,cond]at f;rw [wG]at f;split at f
                       ·rename_i S;exact⟨S.2,by rw [if_neg (by omega)];exact f⟩
                       · rename_i S;have:= (e4 i a f).1;exact⟨by omega,by rw [if_pos (by omega)];simpa using f⟩
                     · simp only [D,decide_false,cond]at f;rw [bF]at f;split at f
                       · rename_i S;rw [vP,ol]at S;refine⟨S,?_⟩;split
                         · rename_i H;rw [hP (by omega)]at f;rw [og i H];exact f
                         · rename_i H;rw [iQ (by omega),ol]at f;exact f
                       ·cases f
                    have hT2:∀i a,(bif beq off 0 then putCells t (len*esz) vs else putCells .leaf 0 (old++vs)).at i=some a→i<old.length+vs.length∧ (old++vs)[i]?=some a:=by
                     intro i a f;obtain⟨p1,p2⟩ :=hT i a f;refine⟨by omega,?_⟩;split at p2
                     · rename_i H;rw [hP (by omega),←og i H];exact p2
                     · rename_i H;rw [iQ (by omega),ol];exact p2
                    by_cases p:len+n≤c
                    · have G:=g4 (by omega);subst G;have hm: (len+n) *esz≤c*esz:=mul_le_mul_right _ (by omega);rw [add_mul]at hm;obtain⟨w2,Q,M,q3⟩ :=r.inplace (off:=off) (m:=len*esz) hb hE A O hk' (by omega) hT (L.sh+off+len*esz) rfl;refine⟨.slice (some ⟨L.blk,L.sh+off,none⟩) (len+n) c,w2,E.put h.nb ⟨L.blk,L.sh+off,L.sz⟩,?_,?_,?_,?_⟩
                      · refine run_append_room (base:=some ⟨L.blk,L.sh+off,none⟩) (len:=len) (cap:=c) (w':=w2) hA y o Y B p ?_;simp only [fZ];exact Q P
                      · simp only [VR];exact⟨_,L.sh+off,c,Emb.put_same _ _ _,rfl,le_refl _,p,(fun e=>by cases e),fun _=>rfl,g5⟩
                      ·rw [ol];exact M
                      ·rw [ol];exact q3
                    · obtain⟨r1,x1⟩ :=r.supersede hb;exact F _ _ _ _ rfl r1 x1 p hT2
                 ·cases g
          ·cases g
     ·cases g
   ·cases g
end
section
variable {P :Program} {E:Emb} {h h':Hp} {w w':World} {tm:T AV} {ρ:Operand→Value}
theorem dC {x:Operand}{k:AV→Option AOut}{o:AOut}(h:vQ tm x k=some o) :∃a,bO tm x=some a∧k a=some o:=by
 unfold vQ at h;split at h
 ·rename_i v b;exact⟨v,b,h⟩
 ·cases h
theorem hR {x y:Operand}{k:AV→AV→Option AOut}{o:AOut}(h:ev2 tm x y k=some o) :∃a b,bO tm x=some a∧bO tm y=some b∧k a b=some o:=by
 unfold ev2 at h;split at h
 · rename_i v d;split at h
   ·rename_i u c;exact⟨v,u,d,c,h⟩
   ·cases h
 ·cases h
theorem dX {v:Option AV}{o:AOut}(b:val v h=some o) :∃a,v=some a∧o= .val a h:=by
 unfold val at b;split at b
 ·cases b;exact⟨_,rfl,rfl⟩
 ·cases b
theorem tP {v:Option Hp}{o:AOut}(a:aAd v=some o) :∃h',v=some h'∧o= .val .undef h':=by
 unfold aAd at a;split at a
 ·cases a;exact⟨_,rfl,rfl⟩
 ·cases a
theorem aHz {v:Option (AV×Hp)}{o:AOut}(b:aAA v=some o) :∃a h',v=some (a,h') ∧o= .val a h':=by
 unfold aAA at b;split at b
 ·cases b;exact⟨_,_,rfl,rfl⟩
 ·cases b
theorem oW {f:Nat}{a:Array Value}(hc:fC P f=true) : (callFunc f a).run P w= .ok (.enter f a) w:=by
 unfold fC at hc;split at hc
 · rename_i fn c;simp only [cP,Bool.not_eq_true']at hc;have b:fn.body.isNone=false:=by cases hb:fn.body<;>simp_all
   simp only [callFunc,Sem.run_bind,run_program,Result.andThen_ok,c,hc.2,rN,if_false,b,Sem.run_pure]
 ·cases hc
theorem aN4 {t:TypeId}{b:String}{f:Nat}{v:Value}(hm:pQ P t b=some f)(k:Nat) : (method (k+1) t v b).run P w= .ok (f,v) w:=by
 unfold pQ at hm;split at hm
 ·cases hm
 · rename_i i n;split at hm
   ·cases hm
   · rename_i m a;split at hm
     · rename_i g l c;cases hm;simp [method,dI n,a,g,follow,l,receiverAt,aB c,Place.get]
     ·cases hm
     · rename_i d j g l c;cases hm;have:∀e,d≠ .pointer e:=fun e h=>by subst h;exact j e rfl
       simp only [method,Sem.run_bind,dI n,Result.andThen_ok,a,g,follow,Sem.run_pure,l,receiverAt,aB c];cases d<;>first|exact absurd rfl (this _) |simp [Place.get]
     ·cases hm
theorem aBl {t:TypeId}{b:String}{f:Nat}{v:Value}(hm:pQ P t b=some f)(k:Nat) : (nilAhead (k+1) t v b).run P w= .ok (some false) w:=by
 unfold pQ at hm;split at hm
 ·cases hm
 · rename_i i n;split at hm
   ·cases hm
   · rename_i m a;split at hm
     · rename_i c j l;cases hm;simp [nilAhead,dI n,a,c,followBlind,j]
     ·cases hm
     · rename_i d g c j l;cases hm;have:∀e,d≠ .pointer e:=fun e h=>by subst h;exact g e rfl
       simp only [nilAhead,Sem.run_bind,dI n,Result.andThen_ok,a,c,followBlind,Sem.run_pure,j,aB l];cases d<;>first|exact absurd rfl (this _) |simp
     ·cases hm
theorem aHA (P:Program) :∃k,P.types.size+Made.depth=k+1:=by
 have:0<Made.depth:=by decide
 exact⟨P.types.size+ (Made.depth-1),by omega⟩
theorem aE0 {t:TypeId}{a:String}{f:Nat}{v:Value}{b:Array Value}(hm:pQ P t a=some f)(hc:fC P f=true) :
  (callMethod (.iface t v) a b).run P w= .ok (.enter f (#[v] ++b)) w:=by
 obtain⟨k,hk⟩ :=aHA P;simp only [callMethod,Sem.run_bind,run_program,Result.andThen_ok,hk,aN4 hm,oW hc]
theorem wO {f:Nat}{a:List AV}{o:AOut}(h:aAz P f a=some o) :fC P f=true∧o= .call (.enter f a) :=by
 unfold aAz at h;cases hc:fC P f with
 |false=>rw [hc]at h;cases h
 |true=>rw [hc]at h;simp only [cond]at h;cases h;exact⟨rfl,rfl⟩
theorem aAg {g:AV}{e:Value}{a:String}{b:List AV}{cargs:List Value}{o:AOut}(c:aD5 P g a b=some o)(hr:VR E g e)(j:VRs E b cargs) :
  ∃f h d,o= .call (.enter f h) ∧VRs E h d∧ (callMethod e a ⟨cargs⟩).run P w= .ok (.enter f ⟨d⟩) w:=by
 unfold aD5 at c;split at c
 · rename_i t v;split at c
   · rename_i f hm;obtain⟨hc,rfl⟩ :=wO c;simp only [VR]at hr;obtain⟨u,rfl,i⟩ :=hr;refine⟨f,_,u::cargs,rfl,VRs.cons i j,?_⟩;rw [aE0 hm hc];simp
   ·cases c
 ·cases c
theorem aBm (r:Rel E h w.heap){B:AV}{k:Value}{args:List AV}{cargs:List Value}{o:AOut}(c:wA P B args=some o)(i:VR E B k)(p:VRs E args cargs) :
  ∃d,(Deferred.ofValue k ⟨cargs⟩).run P w= .ok d w∧Out P E h w ((invoke d.target d.args).run P w) o:=by
 unfold wA at c;split at c
 · rename_i f first G
   obtain⟨hc,rfl⟩ :=wO c;simp only [VR]at i;obtain⟨a,b,rfl,D,I⟩ :=i;refine⟨{target:=.fn (.func f) ⟨b⟩,args:= ⟨a⟩ ++ ⟨cargs⟩},by simp [Deferred.ofValue],?_⟩;refine⟨a++cargs++b,?_,(D.append p).append I⟩;simp only [invoke,oW hc];congr 2;apply Array.ext';simp
 · rename_i l;cases c;simp only [VR]at i;obtain⟨L,H,rfl⟩ :=i;refine⟨{target:=.fn (.yield L.blk) #[],args:= #[] ++ ⟨cargs⟩},by simp [Deferred.ofValue],?_⟩;refine⟨cargs,L,H,p,?_⟩;simp only [invoke];congr 2;apply Array.ext';simp
 · rename_i n g;simp only [VR]at i;obtain⟨u,rfl,j⟩ :=i;obtain⟨f,J,s,rfl,F,C⟩ :=aAg (w:=w) c j p;refine⟨{target:=.fn (.method n) #[],args:= #[u] ++ ⟨cargs⟩},by simp [Deferred.ofValue],?_⟩;refine⟨s,?_,F⟩;have y: (#[u] ++ ⟨cargs⟩ :Array Value)[0]?=some u:=by simp
   have q: (#[u] ++ ⟨cargs⟩ :Array Value).extract 1 (#[u] ++ ⟨cargs⟩ :Array Value).size= ⟨cargs⟩ :=by
    apply Array.ext';simp
   simp only [invoke,y,q,C]
 · rename_i t f A g
   have m:∀ {o},aAz P f (g::args) =some o→ (∀u:Value,(receiverVia t u #[] A).run P w= .ok u w) →
     ∃d,(Deferred.ofValue k ⟨cargs⟩).run P w= .ok d w∧Out P E h w ((invoke d.target d.args).run P w) o:=by
    intro o c x;obtain⟨hc,rfl⟩ :=wO c;simp only [VR]at i;obtain⟨u,rfl,j⟩ :=i;refine⟨{target:=.fn (.via t #[] f A) #[],args:= #[u] ++ ⟨cargs⟩},by simp [Deferred.ofValue],?_⟩;refine⟨u::cargs,?_,VRs.cons j p⟩;have y: (#[u] ++ ⟨cargs⟩ :Array Value)[0]?=some u:=by simp
    have q: (#[u] ++ ⟨cargs⟩ :Array Value).extract 1 (#[u] ++ ⟨cargs⟩ :Array Value).size= ⟨cargs⟩ :=by
     apply Array.ext';simp
    simp only [invoke,y,q,Sem.run_bind,x u,Result.andThen_ok,oW hc];refine congrArg (fun z=>Result.ok (Next.enter f z) w) ?_;apply Array.ext';simp
   split at c
   · rename_i e j;exact m c (fun u=>by simp [receiverVia,follow,receiverAt,aB j,Place.get])
   ·cases c
   · rename_i d v j
     exact m c (fun u=>by
      have:∀e,d≠ .pointer e:=fun e h=>by subst h;exact v e rfl
      simp only [receiverVia,Array.toList_empty,follow,Sem.run_bind,Sem.run_pure,Result.andThen_ok,receiverAt,aB j];cases d<;>first|exact absurd rfl (this _) |simp [Place.get])
   ·cases c
 ·cases c
theorem tQ {s:TypeId}{i o:Nat}(a:aER P s i=some o)(b k:Nat) : (Instr.fieldAt s (.pointer (some ⟨b,k,none⟩)) i).run P w= .ok (.pointer (some ⟨b,k+o,none⟩)) w:=by
 unfold aER at a;split at a
 · rename_i fs d;split at a
   · rename_i f e;split at a
     · rename_i n c;cases a;simp [Instr.fieldAt,aB d,e,Instr.sureAddr,fieldPlace,bY c,fZ]
     ·cases a
   ·cases a
 ·cases a
theorem lJ {i:AV}{b:Value}{len k:Nat}(hb:iY i len=some k)(a:VR E i b) :∃kk,b= .int kk (k:Int) ∧k<len:=by
 unfold iY at hb;split at hb
 · split at hb
   · rename_i c;cases hb;simp only [VR]at a;exact⟨_,by rw [a];congr 1;omega,by omega⟩
   ·cases hb
 ·cases hb
theorem aE1 {t:TypeId}{d:TypeDesc}{s off:Nat}{c:List AV}{cs:Array Value}{v:AV}(f:P.underlying t=some d)(i:aY P t=some s)(g:VRs E c cs.toList)
  (hp: (bif isAggD d then some (AV.agg ((c.drop off).take s))else c[off]?) =some v) :∃cv,(part t cs off).run P w= .ok cv w∧VR E v cv:=by
 cases a:isAggD d with
 | true=>
  rw [a]at hp;simp only [cond]at hp;cases hp;refine⟨.agg (cs.extract off (off+s)),by simp [part,qR f,a,bY i],?_⟩;simp only [VR];refine⟨(cs.extract off (off+s)).toList,rfl,?_⟩;have:= (g.drop off).take s;have e: (cs.extract off (off+s)).toList= (cs.toList.drop off).take s:=by simp
  rw [e];exact this
 | false=>
  rw [a]at hp;simp only [cond]at hp;obtain⟨cv,h,j⟩ :=g.get _ _ hp;have b:cs[off]?=some cv:=by simpa using h
  exact⟨cv,by simp [part,qR f,a,b],j⟩
theorem aBn {q b:TypeId}{ok:Bool}{a v:AV}{p:Value}(c:wB P b ok a=some v)(h:VR E a p) :
  ∃cv,(Instr.typeAssert p q b ok).run P w= .ok cv w∧VR E v cv:=by
 unfold wB at c;split at c
 ·cases c
 ·cases c
 · rename_i d n j;have i:∀ms,d≠ .interface ms:=fun ms e=>n ms (by rw [e]);split at c
   · cases ok with
     |false=>cases c
     | true=>
      simp only [cond]at c;split at c
      · rename_i z hz;cases c;obtain⟨m,l,k⟩ :=iT hz;simp only [VR]at h;subst h;refine⟨.tuple #[m,.bool false],?_,by simp only [VR];exact⟨_,rfl,VRs.cons (k E) (VRs.cons (by simp [VR]) (VRs.nil E))⟩⟩;cases d<;>first|exact absurd rfl (i _) |simp [Instr.typeAssert,aB j,l]
      ·cases c
   · rename_i t u;simp only [VR]at h;obtain⟨o,rfl,f⟩ :=h;rw [bM]at c;by_cases g:t=b
     · simp only [g,decide_true,cond]at c;cases ok with
       | true=>
        cases c;refine⟨.tuple #[o,.bool true],?_,by simp only [VR];exact⟨_,rfl,VRs.cons f (VRs.cons (by simp [VR]) (VRs.nil E))⟩⟩;cases d<;>first|exact absurd rfl (i _) |simp [Instr.typeAssert,aB j,g]
       | false=>
        cases c;refine⟨o,?_,f⟩;cases d<;>first|exact absurd rfl (i _) |simp [Instr.typeAssert,aB j,g]
     · simp only [g,decide_false,cond]at c;cases ok with
       |false=>cases c
       | true=>
        simp only at c;split at c
        · rename_i z hz;cases c;obtain⟨m,l,k⟩ :=iT hz;refine⟨.tuple #[m,.bool false],?_,by simp only [VR];exact⟨_,rfl,VRs.cons (k E) (VRs.cons (by simp [VR]) (VRs.nil E))⟩⟩;cases d<;>first|exact absurd rfl (i _) |simp [Instr.typeAssert,aB j,g,l]
        ·cases c
   ·cases c
theorem aN5 (r:Rel E h w.heap){a:Array TypeId}{ty t:TypeId}{x v:AV}{i:Value}(f:a[0]?=some t)(d:aZF P h t x=some v)(e:VR E x i) :
  ∃cv,(Builtin.len_ a ty #[i]).run P w= .ok cv w∧VR E v cv:=by
 unfold aZF at d;split at d
 · rename_i b;cases d;simp only [VR]at e;subst e;exact⟨_,by simp [Builtin.len_,f,aB b,mT];rfl,by simp [VR,goInt]⟩
 · rename_i b;cases d;exact⟨_,by simp [Builtin.len_,f,aB b];rfl,by simp [VR,goInt]⟩
 · rename_i b;cases d;simp only [VR]at e;obtain⟨L,k,n,_,rfl,_⟩ :=e;exact⟨_,by simp [Builtin.len_,f,aB b];rfl,by simp [VR,goInt]⟩
 · rename_i b;cases d;simp only [VR]at e;subst e;exact⟨_,by simp [Builtin.len_,f,aB b];rfl,by simp [VR,goInt]⟩
 · rename_i b;cases d;simp only [VR]at e;subst e;exact⟨_,by simp [Builtin.len_,f,aB b];rfl,by simp [VR,goInt]⟩
 · rename_i b;split at d
   · rename_i m q c hm;cases d;simp only [VR]at e;obtain⟨L,hE,rfl⟩ :=e;obtain⟨p,g,j,l,o⟩ :=r.obj _ _ hm;rw [hE]at g;cases g;have:=o.length;refine⟨.int .i64 j.size,by simp [Builtin.len_,f,aB b,eR l,goInt],?_⟩;simp only [VR,Array.length_toList]at this ⊢;rw [this]
   ·cases d
 ·cases d
theorem aN6 {a:Array TypeId}{ty t:TypeId}{x v:AV}{f:Value}(e:a[0]?=some t)(b:bEq P t x=some v)(c:VR E x f) :
  ∃cv,(Builtin.cap_ a ty #[f]).run P w= .ok cv w∧VR E v cv:=by
 unfold bEq at b;split at b
 · rename_i d;cases b;simp only [VR]at c;obtain⟨L,i,g,_,rfl,_,_,h,_⟩ :=c;exact⟨_,by simp [Builtin.cap_,e,aB d];rfl,by simp [VR,goInt,h]⟩
 · rename_i d;cases b;simp only [VR]at c;subst c;exact⟨_,by simp [Builtin.cap_,e,aB d];rfl,by simp [VR,goInt]⟩
 ·cases b
theorem aE2 (r:Rel E h w.heap){b:Builtin}{c:Array TypeId}{ty:TypeId}{consts:Array Bool}{j:List AV}{cargs:List Value}{o:AOut}(d:fD P h b c j=some o)(l:VRs E j cargs) :
  Out P E h w ((builtin b c ty consts ⟨cargs⟩).run P w) o∧ ((b= .len∨b= .cap∨b= .max∨b= .min) →aSp P E h w ((builtin b c ty consts ⟨cargs⟩).run P w) o) :=by
 unfold fD at d;split at d
 · rename_i x;obtain⟨z,p,rfl,f,e⟩ :=l.cons_inv;rw [e.nil_inv];split at d
   · rename_i t B;split at d
     · rename_i v y;cases d;obtain⟨cv,q,m⟩ :=aN5 (ty:=ty) r B y f;exact aU r q m
     ·cases d
   ·cases d
 · rename_i x;obtain⟨z,p,rfl,f,e⟩ :=l.cons_inv;rw [e.nil_inv];split at d
   · rename_i t B;split at d
     · rename_i v y;cases d;obtain⟨cv,q,m⟩ :=aN6 (ty:=ty) (w:=w) B y f;exact aU r q m
     ·cases d
   ·cases d
 · rename_i s x;obtain⟨A,p,rfl,i,e⟩ :=l.cons_inv;obtain⟨z,n,rfl,f,g⟩ :=e.cons_inv;rw [g.nil_inv];split at d
   · rename_i v J y;cases d;obtain⟨cv,H,I,q,m,C,F⟩ :=aappend_sound (ty:=ty) r y i f;exact nq (by simp) (kV q m C F)
   ·cases d
 · rename_i k a D b;cases d;obtain⟨A,p,rfl,i,e⟩ :=l.cons_inv;obtain⟨z,n,rfl,f,g⟩ :=e.cons_inv;rw [g.nil_inv];simp only [VR]at i f;subst i f;exact aU r (cv:=.int k (if b>a then b else a)) (by simp [Builtin.max_,Builtin.max2]) (by simp [VR])
 · rename_i k a D b;cases d;obtain⟨A,p,rfl,i,e⟩ :=l.cons_inv;obtain⟨z,n,rfl,f,g⟩ :=e.cons_inv;rw [g.nil_inv];simp only [VR]at i f;subst i f;exact aU r (cv:=.int k (if b<a then b else a)) (by simp [Builtin.min_,Builtin.min2]) (by simp [VR])
 · rename_i t v;cases d;obtain⟨A,p,rfl,i,e⟩ :=l.cons_inv;rw [e.nil_inv];simp only [VR]at i;obtain⟨u,rfl,G⟩ :=i;exact nq (by simp) ⟨.iface t u,by simp [builtin,Instr.panic],by simp only [VR];exact⟨u,rfl,G⟩⟩
 · cases d;rw [l.nil_inv];exact nq (by simp) (by simp [Out,builtin])
 ·cases d
theorem lK {S:Operand→Prop}(hρ:Reads E tm ρ S){x:Option Operand}{a:Option AV}(hx:∀y,x=some y→S y)(h0:pP tm x=some a) :OVR E a (x.map ρ) :=by
 unfold pP at h0;split at h0
 ·cases h0;trivial
 · split at h0
   ·rename_i v hv;cases h0;exact hρ _ (hx _ rfl) _ hv
   ·cases h0
theorem aLj (r:Rel E h w.heap){c:Call}(hρ:Reads E tm ρ (· ∈c.operands)){ty:TypeId}{o:AOut}(h0:pR P h tm c=some o) :
  Out P E h w ((do let d ←resolve ρ c ty;invoke d.target d.args:Sem Next).run P w) o∧ ((∃b,c.callee= .builtin b∧ (b= .len∨b= .cap∨b= .max∨b= .min)) →aSp P E h w ((do let d ←resolve ρ c ty;invoke d.target d.args:Sem Next).run P w) o) :=by
 unfold pR at h0;split at h0
 ·cases h0
 · rename_i args hargs;have ha:=hρ.list (fun x hx=>by simp only [Call.operands,Array.mem_append];exact .inr (by simpa using hx)) hargs;have hm:c.args.map ρ= ⟨c.args.toList.map ρ⟩ :=by apply Array.ext';simp
   split at h0
   · rename_i f hf;split at h0
     · rename_i fv hfv;refine nq (fun⟨b,hb,_⟩ =>by rw [hf]at hb;cases hb) ?_;obtain⟨d,k1,k2⟩ :=aBm r h0 (hρ _ (by simp [Call.operands,hf]) _ hfv) ha;simp only [resolve,hf,hm,Sem.run_bind,k1,Result.andThen_ok];exact k2
     ·cases h0
   · rename_i rc name hf;split at h0
     · rename_i rv hrv;refine nq (fun⟨b,hb,_⟩ =>by rw [hf]at hb;cases hb) ?_;obtain⟨f,aS,cas,rfl,k1,k2⟩ :=aAg (w:=w) h0 (hρ _ (by simp [Call.operands,hf]) _ hrv) ha;refine⟨cas,?_,k1⟩;have e0: (#[ρ rc] ++ ⟨c.args.toList.map ρ⟩ :Array Value)[0]?=some (ρ rc) :=by simp
       have e1: (#[ρ rc] ++ ⟨c.args.toList.map ρ⟩ :Array Value).extract 1 (#[ρ rc] ++ ⟨c.args.toList.map ρ⟩ :Array Value).size= ⟨c.args.toList.map ρ⟩ :=by
        apply Array.ext';simp [aG3]
       simp only [resolve,hf,hm,Sem.run_bind,Sem.run_pure,Result.andThen_ok,invoke,e0,e1,k2]
     ·cases h0
   · rename_i b hf;simp only [resolve,hf,hm,Sem.run_bind,Sem.run_pure,Result.andThen_ok,invoke];have:=aE2 (ty:=ty) (consts:=c.args.map fun| .const _=>true|_=>false) r h0 ha;exact⟨this.1,fun⟨b',hb,hq⟩ =>this.2 (by cases hb;exact hq)⟩
theorem rS (x:Nat) :∀ (l:List Nat),aAB x l=l.contains x
 | [] =>rfl
 | y::l=>by
  rw [aAB,List.contains_cons,rS x l];congr 1;rw [Bool.eq_iff_iff,beq_eq,beq_iff_eq];exact eq_comm
theorem ERs.filter {E:Emb}(p:Nat→Bool) :∀ {aS:List (AV×AV×Nat)} {us:List MapEntry},ERs E aS us→ERs E (aS.filter fun e=>p e.2.2) (us.filter fun u=>p u.born)
 | [],_,r=>by simp only [ERs]at r;subst r;simp [ERs]
 | a::aS,_,r=>by
  simp only [ERs]at r;obtain⟨u,us',rfl,h2,h3,h4,h5⟩ :=r;have ih:=ERs.filter p h5;simp only [List.filter_cons,h4];split
  ·simp only [ERs];exact⟨u,_,rfl,h2,h3,h4,ih⟩
  ·exact ih
theorem ERs.append {E:Emb}:∀ {aS bs:List (AV×AV×Nat)} {us vs:List MapEntry},ERs E aS us→ERs E bs vs→ERs E (aS++bs) (us++vs)
 | [],_,_,_,r,k=>by simp only [ERs]at r;subst r;exact k
 | a::aS,_,_,_,r,k=>by
  simp only [ERs]at r;obtain⟨u,us',rfl,h2,h3,h4,h5⟩ :=r;simp only [vV,ERs];exact⟨u,_,rfl,h2,h3,h4,h5.append k⟩
theorem ERs.len {E:Emb}:∀ {aS:List (AV×AV×Nat)} {us:List MapEntry},ERs E aS us→aS.length=us.length
 | [],_,r=>by simp only [ERs]at r;subst r;rfl
 | a::aS,_,r=>by
  simp only [ERs]at r;obtain⟨u,us',rfl,h2,h3,h4,h5⟩ :=r;simp [h5.len]
theorem ERs.get {E:Emb}:∀ {aS:List (AV×AV×Nat)} {us:List MapEntry},ERs E aS us→∀ (i:Nat) (u:MapEntry),us[i]?=some u→∃a,aS[i]?=some a∧VR E a.1 u.key∧VR E a.2.1 u.val∧u.born=a.2.2
 | [],_,r,i,u,e=>by simp only [ERs]at r;subst r;simp at e
 | a::aS,_,r,i,u,e=>by
  simp only [ERs]at r;obtain⟨u',us',rfl,h2,h3,h4,h5⟩ :=r;cases i with
  |zero=>simp at e;subst e;exact⟨a,rfl,h2,h3,h4⟩
  |succ i=>simp at e;obtain⟨b,g1,g2⟩ :=h5.get i u e;exact⟨b,by simpa using g1,g2⟩
theorem ERs.all {E:Emb}(p:Nat→Bool) :∀ {aS:List (AV×AV×Nat)} {us:List MapEntry},ERs E aS us→ (aS.all fun e=>p e.2.2) =us.all fun u=>p u.born
 | [],_,r=>by simp only [ERs]at r;subst r;rfl
 | a::aS,_,r=>by
  simp only [ERs]at r;obtain⟨u,us',rfl,h2,h3,h4,h5⟩ :=r;simp only [List.all_cons,h4,ERs.all p h5]
theorem tR {r:Nat}{m:Option Nat}{s:Nat}{l:Array Nat}{n:Nat}(hr:w.heap[r]?=some (.mapIter m s l n)) : (getObj r).run P w= .ok (.mapIter m s l n) w:=by
 simp [getObj,Sem.run,hr]
theorem aIO (n:Nat)(hn:0<n) :∃c d,c<n∧ (choose (.mapNext n)).run P w= .ok c {w with drawn:=d}:=by
 by_cases h1:n≤1
 · refine⟨0,w.drawn,hn,?_⟩;have hq: (Question.mapNext n).forced=true:=by simp [Question.forced,h1]
   simp only [run_choose,hq,if_true]
 · refine⟨(Question.mapNext n).cut (w.tape w.drawn (.mapNext n)),w.drawn+1,?_,?_⟩
   · simp only [Question.cut];exact Nat.mod_lt _ hn
   · have hq: (Question.mapNext n).forced=false:=by simp [Question.forced];omega
     simp only [run_choose,hq];rfl
theorem Ext.drew {E:Emb}{h:Hp}{w:World}(d:Nat) :Ext E h w E h {w with drawn:=d}:=
 ⟨Emb.le.refl E,le_refl _,fun _ _ _=>rfl,fun b o L h1 h2 i hi _=> ⟨b,o,L,h1,h2,hi⟩,le_refl _,rfl,rfl,rfl,fun _ _=>rfl,fun _ _=>rfl,fun _ _ e _=>.inl e,fun _ o e _=> ⟨o,e⟩⟩
theorem aIP {es:List (AV×AV×Nat)}{ES:Array MapEntry}(r:ERs E es ES.toList)(since:Nat)(seen:List Nat) :
  let left:=ES.filter fun e=> !(⟨seen⟩ :Array Nat).contains e.born
  let cs:= (if(left.filter (·.born<since)).isEmpty then #[none]else #[]) ++ ((left.filter (·.born<since)) ++ (left.filter (·.born≥since))).map some
  0<cs.size∧∀c,c<cs.size→∃x,x∈aIA es since seen∧ ((x=none∧cs[c]?=some none) ∨∃a u,x=some a∧cs[c]?=some (some u) ∧VR E a.1 u.key∧VR E a.2.1 u.val∧u.born=a.2.2) :=by
 intro left cs;have hl:ERs E (es.filter fun e=> !(aAB e.2.2 seen)) left.toList:=by
  have:=r.filter (fun n=> !(aAB n seen));simpa [left,rS]using this
 have ho:ERs E ((es.filter fun e=> !(aAB e.2.2 seen)).filter fun e=>blt e.2.2 since) (left.filter (·.born<since)).toList:=by
  have:=hl.filter (fun n=>blt n since);simpa [cY]using this
 have hn:ERs E ((es.filter fun e=> !(aAB e.2.2 seen)).filter fun e=> !(blt e.2.2 since)) (left.filter (·.born≥since)).toList:=by
  have:=hl.filter (fun n=> !(blt n since));have e1: (left.filter (·.born≥since)).toList=left.toList.filter (fun u=> !(blt u.born since)) :=by
   simp only [Array.toList_filter];congr 1
   funext u
   simp only [cY,ge_iff_le];by_cases g:since≤u.born
   · have:¬u.born<since:=by omega
     simp [g,this]
   · have:u.born<since:=by omega
     simp [g,this]
  rw [e1];exact this
 have hb:=ho.append hn;have hio: (left.filter (·.born<since)).isEmpty= ((es.filter fun e=> !(aAB e.2.2 seen)).filter fun e=>blt e.2.2 since).isEmpty:=by
  have:=ho.len;rw [Bool.eq_iff_iff];simp only [Array.isEmpty_iff_size_eq_zero,List.isEmpty_iff_length_eq_zero,this,Array.length_toList]
 have got:∀ (i:Nat) (u:MapEntry),((left.filter (·.born<since)).toList++ (left.filter (·.born≥since)).toList)[i]?=some u→∃a,a∈ ((es.filter fun e=> !(aAB e.2.2 seen)).filter fun e=>blt e.2.2 since) ++ ((es.filter fun e=> !(aAB e.2.2 seen)).filter fun e=> !(blt e.2.2 since)) ∧VR E a.1 u.key∧VR E a.2.1 u.val∧u.born=a.2.2:=fun i u e=>by
  obtain⟨a,g1,g2⟩ :=hb.get i u e;exact⟨a,kS g1,g2⟩
 have ecs:cs.toList= (if((es.filter fun e=> !(aAB e.2.2 seen)).filter fun e=>blt e.2.2 since).isEmpty then [none]else []) ++ ((left.filter (·.born<since)).toList++ (left.filter (·.born≥since)).toList).map some:=by
  simp only [cs,hio];split<;>simp
 have esz:cs.size=cs.toList.length:=by simp
 refine⟨?_,fun c hc=>?_⟩
 · rw [esz,ecs];by_cases g: ((es.filter fun e=> !(aAB e.2.2 seen)).filter fun e=>blt e.2.2 since).isEmpty=true
   ·rw [if_pos g];simp
   · rw [←hio,Array.isEmpty_iff_size_eq_zero]at g;have:0< (left.filter (·.born<since)).toList.length:=by simp only [Array.length_toList];omega
     simp only [vP,lB];omega
 · have hc2:c<cs.toList.length:=by omega
   have hx:cs[c]?=some cs.toList[c] :=by rw [←rO];exact kR hc2
   have hmem:=List.getElem_mem hc2;rw [hx];generalize cs.toList[c] =y at hmem;rw [ecs]at hmem;rcases zq28.1 hmem with g|g
   · split at g
     · rename_i hi;simp only [zq32]at g;subst g;exact⟨none,by simp only [aIA,hi,if_true];simp,.inl ⟨rfl,rfl⟩⟩
     ·cases g
   · obtain⟨u,hu,rfl⟩ :=zq24.1 g;obtain⟨i,hi,rfl⟩ :=List.mem_iff_getElem.1 hu;obtain⟨a,ha,g2⟩ :=got i _ (kR hi);exact⟨some a,by simp only [aIA];exact zq28.2 (.inr (zq24.2 ⟨a,ha,rfl⟩)),.inr ⟨a,_,rfl,rfl,g2⟩⟩
theorem aDj (r:Rel E h w.heap){b:Nat}{l:List (AV×Hp)}{L:Loc}(h0:aHs h b=some l)(hE:E b=some L)(hL:L.sh=0) :
  ∃v h',(v,h') ∈l∧∃cv w',(∀ty,(Instr.next (.pointer (some ⟨L.blk,0,none⟩)) false ty).run P w= .ok cv w') ∧VR E v cv∧Rel E h' w'.heap∧Ext E h w E h' w':=by
 unfold aHs at h0;split at h0
 · rename_i m since seen last hm;obtain⟨L',g1,Lm,g2,g3,g4⟩ :=r.obj _ _ hm;rw [hE]at g1;cases g1;split at h0
   · rename_i es clock hmm;obtain⟨L',k1,ES,k2,k3⟩ :=r.obj _ _ hmm;rw [g3]at k1;cases k1;cases hc: (!seen.isEmpty&& !es.isEmpty&&es.all (fun e=>ble last e.2.2))with
     |true=>rw [hc]at h0;cases h0
     | false=>
      rw [hc]at h0;simp only [cond]at h0;cases h0;have e1: (!(⟨seen⟩ :Array Nat).isEmpty&& !ES.isEmpty&&ES.all (·.born≥last)) =false:=by
       rw [←hc];have a1: (⟨seen⟩ :Array Nat).isEmpty=seen.isEmpty:=by rw [←Array.isEmpty_toList]
       have a2:ES.isEmpty=es.isEmpty:=by
        have:=k3.len;rw [Bool.eq_iff_iff];simp only [Array.isEmpty_iff_size_eq_zero,List.isEmpty_iff_length_eq_zero,this,Array.length_toList]
       have a3:ES.all (·.born≥last) =es.all (fun e=>ble last e.2.2) :=by
        rw [k3.all (fun n=>ble last n),←Array.all_toList];congr 1
        funext u
        rw [Bool.eq_iff_iff];simp
       rw [a1,a2,a3]
      obtain⟨c1,c2⟩ :=aIP k3 since seen;obtain⟨c,d,c3,c4⟩ :=aIO (P:=P) (w:=w) _ c1;obtain⟨x,c5,c6⟩ :=c2 c c3;refine⟨_,_,zq24.2 ⟨x,c5,rfl⟩,?_⟩;rcases c6 with⟨rfl,c7⟩ | ⟨a,u,rfl,c7,c8,c9,c10⟩
      · refine⟨.tuple #[.bool false],{w with drawn:=d},fun ty=>?_,?_,r,Ext.drew d⟩
        ·simp only [Instr.next,Sem.run_bind,tR g2,Result.andThen_ok,eR k2,e1,rN,if_false,c4,c7,Sem.run_pure]
        ·simp only [VR];exact⟨_,rfl,VRs.cons (by simp [VR]) (VRs.nil E)⟩
      · have r1:Rel E h ({w with drawn:=d}:World).heap:=r;have q:=r1.setObj (o':=.miter m since (seen++ [a.2.2]) clock) (.mapIter (some Lm.blk) since (#[u.born].foldl (·.push ·) ⟨seen⟩) clock) hm hE rfl rfl (fun H' hH=> ⟨Lm,by rw [hH,←c10];simp,g3,g4⟩);refine⟨.tuple #[.bool true,u.key,u.val],cE {w with drawn:=d} L.blk (.mapIter (some Lm.blk) since ((⟨seen⟩ :Array Nat).push u.born) clock),fun ty=>?_,?_,q.1,(Ext.drew d).trans q.2⟩
        · have:=pU (P:=P) (w:={w with drawn:=d}) (ob':=.mapIter (some Lm.blk) since ((⟨seen⟩ :Array Nat).push u.born) clock) g2 (fun _ _ _ e=>by cases e);simp only [Instr.next,Sem.run_bind,tR g2,Result.andThen_ok,eR k2,e1,rN,if_false,c4,c7,this,Sem.run_pure]
        · simp only [VR];exact⟨_,rfl,VRs.cons (by simp [VR]) (VRs.cons c8 (VRs.cons c9 (VRs.nil E)))⟩
   ·cases h0
 ·cases h0
theorem ERs.find {E:Emb}(p:Nat→Bool) :∀ {aS:List (AV×AV×Nat)} {us:List MapEntry},ERs E aS us→∀ {a},aS.find? (fun e=>p e.2.2) =some a→∃u,us.find? (fun u=>p u.born) =some u∧VR E a.1 u.key∧VR E a.2.1 u.val
 | [],_,_,a,e=>by simp at e
 | b::aS,_,r,a,e=>by
  simp only [ERs]at r;obtain⟨u,us',rfl,h2,h3,h4,h5⟩ :=r;rw [List.find?_cons]at e ⊢;rw [h4];split at e
  ·cases e;exact⟨u,rfl,h2,h3⟩
  ·exact ERs.find p h5 e
theorem aIQ (r:Rel E h w.heap){b:Nat}{v:AV}{L:Loc}(h0:aNY h b=some v)(hE:E b=some L) :
  L.sh=0∧∃cv,(Instr.entry (.pointer (some ⟨L.blk,0,none⟩))).run P w= .ok cv w∧VR E v cv:=by
 unfold aNY at h0;split at h0
 · rename_i m since seen last hm;obtain⟨L',g1,Lm,g2,g3,g4⟩ :=r.obj _ _ hm;rw [hE]at g1;cases g1;split at h0
   · rename_i stamp es clock hs hmm;obtain⟨L',k1,ES,k2,k3⟩ :=r.obj _ _ hmm;rw [g3]at k1;cases k1;cases hc:beq clock last with
     |false=>rw [hc]at h0;cases h0
     | true=>
      rw [hc]at h0;simp only [cond]at h0;split at h0
      · rename_i e he;cases h0;obtain⟨u,q1,q2,q3⟩ :=k3.find (fun n=>beq n stamp) he;have q1':ES.find? (·.born==stamp) =some u:=by
         rw [←Array.find?_toList];have e3: (fun u:MapEntry=> (u.born==stamp)) =fun u=>beq u.born stamp:=by funext u;rw [Bool.eq_iff_iff,beq_iff_eq,beq_eq]
         rw [e3];exact q1
        have hb: (⟨seen⟩ :Array Nat).back?=some stamp:=by simpa [←Array.getLast?_toList]using hs
        have hcl: (clock != last) =false:=by rw [beq_eq]at hc;simp [hc]
        refine⟨g4,.tuple #[u.key,u.val],?_,?_⟩
        ·simp only [Instr.entry,Sem.run_bind,tR g2,Result.andThen_ok,hb,eR k2,hcl,rN,if_false,q1',Sem.run_pure]
        · simp only [VR];exact⟨_,rfl,VRs.cons q2 (VRs.cons q3 (VRs.nil E))⟩
      ·cases h0
   ·cases h0
 ·cases h0
theorem aBo {r:Nat}{s:ByteArray}{p:Nat}(hr:w.heap[r]?=some (.stringIter s p)) : (getObj r).run P w= .ok (.stringIter s p) w:=by
 simp [getObj,Sem.run,hr]
theorem aIR {l n pos c d:Nat}(h0:aNX l n pos=some (c,d)) :Utf8.decode (iH l n) pos= (c,d) ∧pos<l:=by
 unfold aNX at h0;rw [cY]at h0;by_cases hp:pos<l
 · simp only [hp,decide_true,cond]at h0;rw [cY]at h0;by_cases hc:Nat.mod (Nat.div n (Nat.pow 256 pos)) 256<128
   · simp only [hc,decide_true]at h0;cases h0;refine⟨?_,hp⟩;have hc':n / 256 ^ pos % 256<128:=hc;have hg: ((iH l n).get! pos).toNat=n / 256 ^ pos % 256:=by
      have:=jW l n pos hp;simp only [iH,ByteArray.get!];have h2: (⟨aQ l n⟩ :Array UInt8)[pos]! =UInt8.ofNat (n / 256 ^ pos % 256) :=by
       rw [Array.getElem!_eq_getD,aAx,show(⟨aQ l n⟩ :Array UInt8) = (aQ l n).toArray from rfl,List.getElem?_toArray,this];rfl
      rw [h2];simp
     show Utf8.decode (iH l n) pos= (n / 256 ^ pos % 256,1);have hlt:n / 256 ^ pos % 256<0x80:=hc';simp only [Utf8.decode,Nat.add_zero,hg,hlt,if_true]
   ·simp only [hc,decide_false,Option.some.injEq]at h0;exact⟨h0,hp⟩
 ·simp only [hp,decide_false,cond]at h0;cases h0
set_option maxHeartbeats 4000000 in
theorem aLk (r:Rel E h w.heap){o:Oper}(hρ:Reads E tm ρ (· ∈o.op.operands)){out:AOut}(h0:hQ P h tm o=some out) :
  Out P E h w ((execOp ρ o).run P w) out∧ (dF o.op= .pure∨dF o.op= .read→aSp P E h w ((execOp ρ o).run P w) out) :=by
 unfold hQ at h0;unfold execOp;split at h0
 all_goals (rename_i hop;try (simp only [hop];rw [hop]at hρ))
 · -- move
   obtain⟨a,ha,rfl⟩ :=dX h0;have hh:=hρ _ (by simp [Op.operands]) _ ha;exact⟨⟨E,w,_,.inl rfl,hh,r,Ext.refl _ _ _⟩,fun _=> ⟨rfl,_,rfl,hh⟩⟩
 · obtain⟨a,ha,rfl⟩ :=dX h0;have hh:=hρ _ (by simp [Op.operands]) _ ha;exact⟨⟨E,w,_,.inl rfl,hh,r,Ext.refl _ _ _⟩,fun _=> ⟨rfl,_,rfl,hh⟩⟩
 · -- pick
   split at h0
   · rename_i hc;obtain⟨a,ha,rfl⟩ :=dX h0;have:=hρ _ (by simp [Op.operands]) _ hc;simp only [VR]at this;have hh:=hρ _ (by simp [Op.operands]) _ ha;exact⟨⟨E,w,_,.inl (by simp [this,asBool]),hh,r,Ext.refl _ _ _⟩,fun _=> ⟨rfl,_,by simp [this,asBool],hh⟩⟩
   · rename_i hc;obtain⟨a,ha,rfl⟩ :=dX h0;have:=hρ _ (by simp [Op.operands]) _ hc;simp only [VR]at this;have hh:=hρ _ (by simp [Op.operands]) _ ha;exact⟨⟨E,w,_,.inl (by simp [this,asBool]),hh,r,Ext.refl _ _ _⟩,fun _=> ⟨rfl,_,by simp [this,asBool],hh⟩⟩
   ·cases h0
 · -- alloc
   rename_i e;split at h0
   · rename_i z hz;cases h0;obtain⟨cz,z1,z2⟩ :=iT hz;obtain⟨q1,q2⟩ :=kW r (z2 E).cells e;refine nq (by simp [dF]) ?_;exact kV (s:=Instr.alloc e true (.tuple #[])) (cv:=.pointer (some ⟨w.heap.size,0,none⟩)) (by simp [Instr.alloc,z1,newVar,newRow]) (yQ w h _) q1 q2
   ·cases h0
 · -- box
   rename_i e x;obtain⟨a,ha,h0⟩ :=dC h0;cases h0;obtain⟨q1,q2⟩ :=kW r (hρ _ (by simp [Op.operands]) _ ha).cells e;refine nq (by simp [dF]) ?_;exact kV (s:=Instr.box e (ρ x)) (cv:=.pointer (some ⟨w.heap.size,0,none⟩)) (by simp [Instr.box,newVar,newRow]) (yQ w h _) q1 q2
 · -- build
   rename_i t ps;split at h0
   · rename_i l hl;obtain⟨a,ha,rfl⟩ :=dX h0;obtain⟨g1,g2⟩ :=hρ.parts (fun p hp=>by simp only [Op.operands,List.mem_toArray,zq24];exact⟨p,hp,rfl⟩) hl;obtain⟨cv,k1,k2⟩ :=aIN (w:=w) (qs:=ps.map fun(i,x) => (i,ρ x)) ha (by rw [g1];simp) (by simpa [Function.comp_def]using g2);exact aU r k1 k2
   ·cases h0
 · -- buildSlice
   rename_i t n ps;split at h0
   · rename_i l hl;split at h0
     · rename_i cs s hcs;cases h0;obtain⟨g1,g2⟩ :=hρ.parts (fun p hp=>by simp only [Op.operands,List.mem_toArray,zq24];exact⟨p,hp,rfl⟩) hl;obtain⟨out,e,k1,k2,k3⟩ :=qU r (qs:=ps.map fun(i,x) => (i,ρ x)) hcs (by rw [g1];simp) (by simpa [Function.comp_def]using g2);obtain⟨q1,q2⟩ :=kW r k1 e;refine nq (by simp [dF]) ?_;exact kV (k3 w) (qS w h _ n n s n true (le_refl _) (le_refl _) (fun _=>rfl) k2) q1 q2
     ·cases h0
   ·cases h0
 · -- load
   rename_i t a;obtain⟨p,hp,h0⟩ :=dC h0;split at h0
   · rename_i b off;obtain⟨v,hv,rfl⟩ :=dX h0;have:=hρ _ (by simp [Op.operands]) _ hp;simp only [VR]at this;obtain⟨L,hE,hL⟩ :=this;obtain⟨cv,k1,k2⟩ :=aDi r hv hE;exact aU r (by simp [Instr.loadAt,hL,Instr.sureAddr,k1]) k2
   ·cases h0
 · -- store
   rename_i t a x;obtain⟨p,v,hp,hx,h0⟩ :=hR h0;split at h0
   · rename_i b off;obtain⟨h',hv,rfl⟩ :=tP h0;have:=hρ _ (by simp [Op.operands]) _ hp;simp only [VR]at this;obtain⟨L,hE,hL⟩ :=this;obtain⟨w',k1,k2,k3⟩ :=aIH r hv hE (hρ _ (by simp [Op.operands]) _ hx);refine nq (by simp [dF]) ?_;exact wJ (by simp [Instr.storeAt,hL,Instr.sureAddr,k1]) k2 k3
   ·cases h0
 · -- nilCheck
   rename_i x;obtain⟨a,ha,h0⟩ :=dC h0;have hv:=hρ _ (by simp [Op.operands]) _ ha;split at h0
   ·cases h0
   ·cases h0
   ·cases h0
   ·cases h0
   · rename_i name t v;split at h0
     · rename_i f hm;cases h0;simp only [VR]at hv;obtain⟨u,hu,c,rfl,hc⟩ :=hv;obtain⟨k,hk⟩ :=aHA P;have hh:VR E (.meth name (.iface t v)) (.func (.method name) #[.iface t c] #[]) :=by simp only [VR];exact⟨_,rfl,c,rfl,hc⟩
       exact⟨⟨E,w,.func (.method name) #[.iface t c] #[],.inl (by simp [hu,hk,aBl hm]),hh,r,Ext.refl _ _ _⟩,fun _=> ⟨rfl,_,by simp [hu,hk,aBl hm],hh⟩⟩
     ·cases h0
   ·cases h0
   · rename_i v h1 h2 h3 h6 h4 h5;cases h0;have hr:∀A B,(A=Result.ok (Next.value (ρ x)) w→B) →A=Result.ok (Next.value (ρ x)) w→B:=fun _ _ f h=>f h;refine hr _ _ (fun e=> ⟨⟨E,w,ρ x,.inl e,hv,r,Ext.refl _ _ _⟩,fun _=> ⟨rfl,_,e,hv⟩⟩) ?_;cases a<;>simp only [VR]at hv
     case nilp=>exact absurd rfl h1
     case nili=>exact absurd rfl h2
     case nilf=>exact absurd rfl h3
     case meth n rc=>exact absurd rfl (h5 n rc)
     case val u=>exact absurd rfl (h6 u)
     case ilst=>obtain⟨vs,_,hv⟩ :=hv;rcases hv.2 with⟨_,_,_,hL,_⟩ | ⟨_,_,_,_,hL,_⟩ <;> (rw [hL];rfl)
     case iptr=>obtain⟨us,_,_,_,_,hL,_⟩ :=hv;rw [hL];rfl
     case gl=>rcases hv with⟨_,_,hL⟩ | ⟨_,_,_,_,hL,_⟩ <;> (rw [hL];rfl)
     all_goals (first
      | (rw [hv];rfl)
      | (obtain⟨L,_,hL⟩ :=hv;rw [hL];rfl)
      | (obtain⟨L,off,cap,_,hL,_⟩ :=hv;rw [hL];rfl)
      | (obtain⟨a,b,hL,_⟩ :=hv;rw [hL];rfl)
      | (obtain⟨u,hL,_⟩ :=hv;rw [hL];rfl))
 · -- binOp
   rename_i op t x y yt;obtain⟨a,b,ha,hb,h0⟩ :=hR h0;obtain⟨v,hv,rfl⟩ :=dX h0;obtain⟨cv,k1,k2⟩ :=aN2 (w:=w) x y hv (hρ _ (by simp [Op.operands]) _ ha) (hρ _ (by simp [Op.operands]) _ hb);exact aU r k1 k2
 · -- unOp
   obtain⟨a,ha,h0⟩ :=dC h0;obtain⟨v,hv,rfl⟩ :=dX h0;obtain⟨cv,k1,k2⟩ :=aSq (P:=P) (w:=w) hv (hρ _ (by simp [Op.operands]) _ ha);exact aU r k1 k2
 · -- convert
   obtain⟨a,ha,h0⟩ :=dC h0;obtain⟨v,hv,rfl⟩ :=dX h0;obtain⟨cv,k1,k2⟩ :=aEV r hv (hρ _ (by simp [Op.operands]) _ ha);exact aU r k1 k2
 · -- makeInterface
   rename_i t x;obtain⟨a,ha,h0⟩ :=dC h0;split at h0
   ·cases h0
   · rename_i d hni hu;cases h0;have hd:∀ms,d≠ .interface ms:=fun ms e=>hni ms (by rw [e]);refine aU r (cv:=.iface t (ρ x)) ?_ (by simp only [VR];exact⟨_,rfl,hρ _ (by simp [Op.operands]) _ ha⟩);cases d<;>first|exact absurd rfl (hd _) |simp [Instr.makeInterface,aB hu]
   ·cases h0
 · -- makeFunc
   rename_i f first cap
   split at h0
   · rename_i fs cs hf hc;cases h0;refine aU r (cv:=.func (.func f) (first.map ρ) (cap.map ρ)) (by simp [Instr.makeFunc]) ?_;simp only [VR];exact⟨first.toList.map ρ,cap.toList.map ρ,by congr 1<;> (apply Array.ext';simp),hρ.list (fun x hx=>by simp only [Op.operands,Array.mem_append];exact .inl (by simpa using hx)) hf,hρ.list (fun x hx=>by simp only [Op.operands,Array.mem_append];exact .inr (by simpa using hx)) hc⟩
   ·cases h0
 · rename_i name first cap
   split at h0
   · rename_i rc hf;cases hc:cap.isEmpty with
     |false=>rw [hc]at h0;cases h0
     | true=>
      rw [hc]at h0;simp only [cond]at h0;cases h0;obtain⟨u,us,hu1,hu2,hu3⟩ := (hρ.list (fun x hx=>by simp only [Op.operands,Array.mem_append];exact .inl (by simpa using hx)) hf).cons_inv;rw [hu3.nil_inv]at hu1;have e1:first.map ρ= #[u] :=by apply Array.ext';simpa using hu1
      have e2:cap.map ρ= #[] :=by have:=Array.isEmpty_iff.1 hc;subst this;simp
      exact aU r (cv:=.func (.method name) #[u] #[]) (by simp [Instr.makeFunc,e1,e2]) (by simp only [VR];exact⟨u,rfl,hu2⟩)
   ·cases h0
 · rename_i t path f pr first cap
   split at h0
   · rename_i rc hp hf;cases hc:cap.isEmpty with
     |false=>rw [hc]at h0;cases h0
     | true=>
      rw [hc]at h0;simp only [cond]at h0;cases h0;obtain⟨u,us,hu1,hu2,hu3⟩ := (hρ.list (fun x hx=>by simp only [Op.operands,Array.mem_append];exact .inl (by simpa using hx)) hf).cons_inv;rw [hu3.nil_inv]at hu1;have e1:first.map ρ= #[u] :=by apply Array.ext';simpa using hu1
      have e2:cap.map ρ= #[] :=by have:=Array.isEmpty_iff.1 hc;subst this;simp
      have e3:path= #[] :=by apply Array.ext';simpa using hp
      exact aU r (cv:=.func (.via t #[] f pr) #[u] #[]) (by simp [Instr.makeFunc,e1,e2,e3]) (by simp only [VR];exact⟨u,rfl,hu2⟩)
   ·cases h0
 · -- makeMap
   cases h0;obtain⟨q1,q2⟩ :=r.new (.map [] 0) (.map #[] 0) 0 (fun _ _ _ _ hH=> ⟨#[],hH,by simp [ERs]⟩);refine nq (by simp [dF]) ?_;refine kV (s:=Instr.makeMap _ (Option.map ρ none)) (cv:=.map (some w.heap.size)) (by simp [Instr.makeMap]) ?_ q1 q2;simp only [VR];exact⟨_,Emb.put_same _ _ _,rfl⟩
 · -- makeSlice
   rename_i t l c;obtain⟨a,b,ha,hb,h0⟩ :=hR h0;split at h0
   · rename_i k1 n k2 m;split at h0
     · rename_i e hu;split at h0
       · rename_i s z inf hs hz hinf;split at h0
         · rename_i hnm;cases hc: (ble s 40&&ble 1 s&&beq z.cells.length s&&ble inf.bytes 1000)with
           |false=>rw [hc]at h0;cases h0
           | true=>
            rw [hc]at h0;simp only [cond]at h0;cases h0;simp only [jF,bM,cP,decide_eq_true_eq]at hc;obtain⟨⟨⟨hs40,hs1⟩,hzl⟩,hby⟩ :=hc;have e1:=hρ _ (by simp [Op.operands]) _ ha;have e2:=hρ _ (by simp [Op.operands]) _ hb;simp only [VR]at e1 e2;obtain⟨cz,z1,z2⟩ :=iT hz;have hzs:cz.cells.size=s:=by have:= (z2 E).cells.length;simp only [Array.length_toList]at this;omega
            obtain⟨nn,rfl⟩ :=Int.eq_ofNat_of_zero_le hnm.1;obtain⟨mm,rfl⟩ :=Int.eq_ofNat_of_zero_le (show 0≤m by omega);have hl1:IntKind.i64.wrap (nn:Int) =nn:=wrap_small (by omega);have hl2:IntKind.i64.wrap (mm:Int) =mm:=wrap_small (by omega);have zr:=aCz (z2 E).cells mm (by omega);rw [hzs]at zr;obtain⟨q1,q2⟩ :=kW r zr e;simp only [kZ];have hbig:¬ ((inf.bytes:Int) * (mm:Int) >2 ^ 48) :=by
             have h3:inf.bytes*mm≤1000*100000:=mul_le_mul hby (by omega);rw [←Int.natCast_mul];generalize inf.bytes*mm=q at h3;omega
            have hcond:¬ ((((mm:Int) <0||decide ((inf.bytes:Int) * (mm:Int) >2 ^ 48)) =true∨ (nn:Int) <0) ∨ (nn:Int) > (mm:Int)) :=by
             simp only [hbig,decide_false,Bool.or_false,decide_eq_true_eq];omega
            refine nq (by simp [dF]) ?_;refine kV (cv:=.slice (some ⟨w.heap.size,0,none⟩) nn mm) ?_ (qS w h _ nn mm s mm true (by omega) (le_refl _) (fun _=>rfl) (by simp)) q1 q2;have hne1:¬ ((mm:Int) <0) :=by omega
            have hne2:¬ ((nn:Int) <0) :=by omega
            have hne3:¬ ((nn:Int) > (mm:Int)) :=by omega
            simp only [Instr.makeSlice,Sem.run_bind,aB hu,Result.andThen_ok,e1,e2,aCy,dI hinf,hl1,hl2];rw [if_neg (by simp only [Bool.or_eq_true,decide_eq_true_eq,gt_iff_lt];omega)];simp only [Sem.run_bind,run_askRoom,Result.andThen_ok,bY hs,kZ];have fin:∀z':Array Value,z'=cz.cells∨mm*s=0→ (⟨((Array.range (mm*s)).map (fun i=>cz.cells[i % s]!)).toList⟩ :Array Value) = (Array.range (mm*s)).map (fun x=>z'[x % z'.size]!) :=by
             intro z' hz';rcases hz' with rfl|h0
             ·rw [hzs]
             · have e0:Array.range 0= #[] :=rfl;rw [h0,e0];simp
            by_cases h0:mm*s=0
            · rw [if_pos h0,fin #[] (.inr h0)];simp [newRow]
            · rw [if_neg h0,fin cz.cells (.inl rfl)];simp [newRow,z1]
         ·cases h0
       ·cases h0
     ·cases h0
   ·cases h0
 · -- slice
   rename_i t x lo hi mx;obtain⟨a,ha,h0⟩ :=dC h0;split at h0
   · rename_i l1 l2 l3 e1 e2 e3;split at h0
     · rename_i b1 b2 b3 d1 d2 d3;obtain⟨v,hv,rfl⟩ :=dX h0;obtain⟨cv,k1,k2⟩ :=aIM (w:=w) hv (hρ _ (by simp [Op.operands]) _ ha) (sH d1 (lK hρ (fun y hy=>by subst hy;simp [Op.operands]) e1)) (sH d2 (lK hρ (fun y hy=>by subst hy;simp [Op.operands]) e2)) (sH d3 (lK hρ (fun y hy=>by subst hy;simp [Op.operands]) e3));exact aU r k1 k2
     ·cases h0
   ·cases h0
 · -- fieldAddr
   rename_i t x f;obtain⟨a,ha,h0⟩ :=dC h0;split at h0
   · rename_i b off;split at h0
     · rename_i o' ho;cases h0;have:=hρ _ (by simp [Op.operands]) _ ha;simp only [VR]at this;obtain⟨L,hE,hL⟩ :=this;exact aU r (cv:=.pointer (some ⟨L.blk,L.sh+off+o',none⟩)) (by rw [hL];exact tQ ho _ _) (by simp only [VR];exact⟨L,hE,by rw [add_assoc]⟩)
     ·cases h0
   ·cases h0
 · -- field
   rename_i t x f;obtain⟨a,ha,h0⟩ :=dC h0;split at h0
   · rename_i cs;have hv:=hρ _ (by simp [Op.operands]) _ ha;simp only [VR]at hv;obtain⟨us,hL,hus⟩ :=hv;split at h0
     · rename_i fs hu;split at h0
       · rename_i fd hfd;split at h0
         · rename_i d s hd hs;have hp:∃v,(bif isAggD d then some (AV.agg ((cs.drop fd.offset).take s))else cs[fd.offset]?) =some v∧out= .val v h:=by
            cases hg:isAggD d with
            |true=>rw [hg]at h0;simp only [cond]at h0;cases h0;exact⟨_,rfl,rfl⟩
            |false=>rw [hg]at h0;simp only [cond]at h0;obtain⟨v,hv,rfl⟩ :=dX h0;exact⟨v,hv,rfl⟩
           obtain⟨v,hv,rfl⟩ :=hp;obtain⟨cv,k1,k2⟩ :=aE1 (w:=w) (cs:= ⟨us⟩) hd hs hus hv;exact aU r (by simp [Instr.field,aB hu,hfd,hL,asAgg,k1]) k2
         ·cases h0
       ·cases h0
     ·cases h0
   ·cases h0
 · -- indexAddr
   rename_i t x ix;obtain⟨a,b,ha,hb,h0⟩ :=hR h0;split at h0
   · rename_i e b' off len cap esz ex hu;split at h0
     · rename_i k s hk hs;cases hc:beq s esz with
       |false=>rw [hc]at h0;cases h0
       | true=>
        rw [hc]at h0;simp only [cond]at h0;cases h0;have:=fQ hc;subst this;obtain⟨kk,hci,hlt⟩ :=lJ hk (hρ _ (by simp [Op.operands]) _ hb);have hv:=hρ _ (by simp [Op.operands]) _ ha;simp only [VR]at hv;obtain⟨L,off',cap',hE,hL,g1,g2,g3,g4,g5⟩ :=hv;have hoff:=g4 (by omega);subst hoff;refine aU r (cv:=.pointer (some ⟨L.blk,L.sh+off+k*s,none⟩)) ?_ (by simp only [VR];exact⟨L,hE,by rw [add_assoc]⟩);simp [Instr.indexAt,hci,asIntOf,hL,aB hu,Nat.not_le.2 hlt,bY hs,fZ]
     ·cases h0
   · rename_i len e b' off hu;split at h0
     · rename_i k s hk hs;cases h0;obtain⟨kk,hci,hlt⟩ :=lJ hk (hρ _ (by simp [Op.operands]) _ hb);have hv:=hρ _ (by simp [Op.operands]) _ ha;simp only [VR]at hv;obtain⟨L,hE,hL⟩ :=hv;refine aU r (cv:=.pointer (some ⟨L.blk,L.sh+off+k*s,none⟩)) ?_ (by simp only [VR];exact⟨L,hE,by rw [add_assoc]⟩);simp [Instr.indexAt,hci,asIntOf,hL,aB hu,Nat.not_le.2 hlt,bY hs,fZ,Instr.sureAddr]
     ·cases h0
   ·cases h0
 · -- index
   rename_i t x ix;obtain⟨a,b,ha,hb,h0⟩ :=hR h0;split at h0
   · rename_i l n hu;split at h0
     · rename_i k hk;cases h0;obtain⟨kk,hci,hlt⟩ :=lJ hk (hρ _ (by simp [Op.operands]) _ hb);have hv:=hρ _ (by simp [Op.operands]) _ ha;simp only [VR]at hv;refine aU r (cv:=.int .u8 ((n / 256 ^ k % 256:Nat) :Int)) ?_ (by simp only [VR];rfl);have hg: (iH l n)[k]?=some (UInt8.ofNat (n / 256 ^ k % 256)) :=by
        have h1:=jW l n k hlt;have h2:k< (iH l n).size:=by rw [mT];exact hlt
        rw [getElem?_pos (iH l n) k h2];congr 1;have h3:= (zq0.1 h1);obtain⟨h4,h5⟩ :=h3;rw [←h5];rfl
       simp [Instr.index,hci,asIntOf,hv,aB hu,hg]
     ·cases h0
   · rename_i len e cs hu;have hv:=hρ _ (by simp [Op.operands]) _ ha;simp only [VR]at hv;obtain⟨us,hL,hus⟩ :=hv;split at h0
     · rename_i k d s hk hd hs;obtain⟨kk,hci,hlt⟩ :=lJ hk (hρ _ (by simp [Op.operands]) _ hb);have hp:∃v,(bif isAggD d then some (AV.agg ((cs.drop (k*s)).take s))else cs[k*s]?) =some v∧out= .val v h:=by
        cases hg:isAggD d with
        |true=>rw [hg]at h0;simp only [cond]at h0;cases h0;exact⟨_,rfl,rfl⟩
        |false=>rw [hg]at h0;simp only [cond]at h0;obtain⟨v,hv,rfl⟩ :=dX h0;exact⟨v,hv,rfl⟩
       obtain⟨v,hv,rfl⟩ :=hp;obtain⟨cv,k1,k2⟩ :=aE1 (w:=w) (cs:= ⟨us⟩) hd hs hus hv;exact aU r (by simp [Instr.index,hci,asIntOf,hL,aB hu,Nat.not_le.2 hlt,bY hs,k1]) k2
     ·cases h0
   ·cases h0
 · -- lookup
   obtain⟨a,b,ha,hb,h0⟩ :=hR h0;obtain⟨v,hv,rfl⟩ :=dX h0;obtain⟨cv,k1,k2⟩ :=aG8 r hv (hρ _ (by simp [Op.operands]) _ ha) (hρ _ (by simp [Op.operands]) _ hb);exact aU r k1 k2
 · -- mapUpdate
   rename_i t m k x;obtain⟨a,b,ha,hb,h0⟩ :=hR h0;obtain⟨c,hc,h0⟩ :=dC h0;obtain⟨h',hv,rfl⟩ :=tP h0;obtain⟨w',k1,k2,k3⟩ :=sJ r hv (hρ _ (by simp [Op.operands]) _ ha) (hρ _ (by simp [Op.operands]) _ hb) (hρ _ (by simp [Op.operands]) _ hc);refine nq (by simp [dF]) ?_;exact wJ k1 k2 k3
 · rename_i t m k x;obtain⟨a,b,ha,hb,h0⟩ :=hR h0;obtain⟨c,hc,h0⟩ :=dC h0;obtain⟨h',hv,rfl⟩ :=tP h0;obtain⟨w',k1,k2,k3⟩ :=sJ r hv (hρ _ (by simp [Op.operands]) _ ha) (hρ _ (by simp [Op.operands]) _ hb) (hρ _ (by simp [Op.operands]) _ hc);refine nq (by simp [dF]) ?_;exact wJ k1 k2 k3
 · -- mapEntry
   obtain⟨a,b,ha,hb,h0⟩ :=hR h0;obtain⟨v,h',hv,rfl⟩ :=aHz h0;obtain⟨cv,w',k1,k2,k3,k4⟩ :=aD0 r hv (hρ _ (by simp [Op.operands]) _ ha) (hρ _ (by simp [Op.operands]) _ hb);refine nq (by simp [dF]) ?_;exact kV k1 k2 k3 k4
 · -- entryStore
   rename_i t m s x;obtain⟨a,b,ha,hb,h0⟩ :=hR h0;obtain⟨c,hc,h0⟩ :=dC h0;obtain⟨h',hv,rfl⟩ :=tP h0;obtain⟨w',k1,k2,k3⟩ :=aBk r t hv (hρ _ (by simp [Op.operands]) _ ha) (hρ _ (by simp [Op.operands]) _ hb) (hρ _ (by simp [Op.operands]) _ hc);refine nq (by simp [dF]) ?_;exact wJ k1 k2 k3
 · -- range
   rename_i t x;obtain⟨a,ha,h0⟩ :=dC h0;split at h0
   · rename_i l n hu;cases h0;have hv:=hρ _ (by simp [Op.operands]) _ ha;simp only [VR]at hv;obtain⟨q1,q2⟩ :=r.new (.siter l n 0) (.stringIter (iH l n) 0) 0 (fun _ _ _ _ hH=> ⟨hH,rfl⟩);refine nq (by simp [dF]) ?_;refine kV (cv:=.pointer (some ⟨w.heap.size,0,none⟩)) (by simp [Instr.range,aB hu,hv]) ?_ q1 q2;exact yQ w h 0
   · rename_i kt et m hu;split at h0
     · rename_i es clock hm;cases h0;have hv:=hρ _ (by simp [Op.operands]) _ ha;simp only [VR]at hv;obtain⟨Lm,hE,hv⟩ :=hv;obtain⟨L',k1,ES,k2,k3⟩ :=r.obj _ _ hm;rw [hE]at k1;cases k1;obtain⟨q1,q2⟩ :=r.new (.miter m clock [] clock) (.mapIter (some Lm.blk) clock #[] clock) 0 (fun E' H' hle he hH=> ⟨Lm,hH,hle.1 _ _ hE,rfl⟩);refine nq (by simp [dF]) ?_;refine kV (cv:=.pointer (some ⟨w.heap.size,0,none⟩)) (by simp [Instr.range,aB hu,hv,eR k2]) ?_ q1 q2;exact yQ w h 0
     ·cases h0
   ·cases h0
 · -- next of a map
   rename_i it;obtain⟨a,ha,h0⟩ :=dC h0;split at h0
   · rename_i rr;have hv:=hρ _ (by simp [Op.operands]) _ ha;simp only [VR]at hv;obtain⟨L,hE,hL⟩ :=hv;split at h0
     · rename_i v h' hm;cases h0;have hz:L.sh=0:=by
        unfold aHs at hm;split at hm
        · rename_i m since seen last hmi;obtain⟨L',g1,Lm,g2,g3,g4⟩ :=r.obj _ _ hmi;rw [hE]at g1;cases g1;exact g4
        ·cases hm
       obtain⟨v1,h1,g1,cv,w',g2,g3,g4,g5⟩ :=aDj (P:=P) r hm hE hz;simp only [zq32,Prod.mk.injEq]at g1;obtain⟨rfl,rfl⟩ :=g1;refine nq (by simp [dF]) ?_;refine kV (cv:=cv) (w':=w') ?_ g3 g4 g5;rw [hL,hz];exact g2 _
     ·cases h0
   ·cases h0
 · -- next
   rename_i it;obtain⟨a,ha,h0⟩ :=dC h0;split at h0
   · rename_i rr;have hv:=hρ _ (by simp [Op.operands]) _ ha;simp only [VR]at hv;obtain⟨L,hE,hL⟩ :=hv;split at h0
     · rename_i l n pos hm;obtain⟨L',g1,g2,g3⟩ :=r.obj _ _ hm;rw [hE]at g1;cases g1;have hz:L.sh+0=0:=by omega
       rw [hz]at hL;cases hp:blt pos l with
       | true=>
        rw [hp]at h0;simp only [cond]at h0;split at h0
        · rename_i c d hc;cases h0;obtain⟨d1,d2⟩ :=aIR hc;have q:=r.setObj (o':=.siter l n (Nat.add pos d)) (.stringIter (iH l n) (pos+d)) hm hE rfl rfl (fun H' hH=> ⟨hH,g3⟩);refine nq (by simp [dF]) ?_;refine kV (cv:=.tuple #[.bool true,.int .i64 pos,.int .i32 c]) (w':=cE w L.blk (.stringIter (iH l n) (pos+d))) ?_ ?_ q.1 q.2
          · have hs:pos< (iH l n).size:=by rw [mT];exact d2
            have:=pU (P:=P) (ob':=.stringIter (iH l n) (pos+d)) g2 (fun _ _ _ e=>by cases e);simp [Instr.next,hL,aBo g2,hs,d1,this,goInt]
          · simp only [VR];exact⟨_,rfl,VRs.cons (by simp [VR]) (VRs.cons (by simp [VR]) (VRs.cons (by simp [VR]) (VRs.nil E)))⟩
        ·cases h0
       | false=>
        rw [hp]at h0;simp only [cond]at h0;cases h0;have hs:¬pos< (iH l n).size:=by rw [mT];intro e;rw [cY]at hp;simp [e]at hp
        refine aU r (cv:=.tuple #[.bool false]) ?_ (by simp only [VR];exact⟨_,rfl,VRs.cons (by simp [VR]) (VRs.nil E)⟩);simp [Instr.next,hL,aBo g2,hs]
     ·cases h0
   ·cases h0
 · -- entry
   rename_i it;obtain⟨a,ha,h0⟩ :=dC h0;split at h0
   · rename_i rr;have hv:=hρ _ (by simp [Op.operands]) _ ha;simp only [VR]at hv;obtain⟨L,hE,hL⟩ :=hv;obtain⟨v,hm,rfl⟩ :=dX h0;obtain⟨hz,cv,g2,g3⟩ :=aIQ (P:=P) r hm hE;refine aU r (cv:=cv) ?_ g3;rw [hL,hz];exact g2
   ·cases h0
 · -- typeAssert
   obtain⟨a,ha,h0⟩ :=dC h0;obtain⟨v,hv,rfl⟩ :=dX h0;obtain⟨cv,k1,k2⟩ :=aBn (w:=w) hv (hρ _ (by simp [Op.operands]) _ ha);exact aU r k1 k2
 · -- extract
   rename_i x i;obtain⟨a,ha,h0⟩ :=dC h0;split at h0
   · rename_i vs;obtain⟨v,hv,rfl⟩ :=dX h0;have hx:=hρ _ (by simp [Op.operands]) _ ha;simp only [VR]at hx;obtain⟨us,hL,hus⟩ :=hx;obtain⟨cv,k1,k2⟩ :=hus.get _ _ hv;have k1': (⟨us⟩ :Array Value)[i]?=some cv:=by rw [show(⟨us⟩ :Array Value) =us.toArray from rfl,List.getElem?_toArray];exact k1
     exact aU r (by simp only [hL,Instr.extract,k1',Sem.run_pure]) k2
   ·cases h0
 · -- call
   obtain⟨g1,g2⟩ :=aLj (ty:=o.type) r hρ h0;refine⟨g1,fun hk=>g2 ?_⟩;revert hk;rename_i c;simp only [dF];split<;>rename_i hcc<;>simp [hcc]
 · -- defer
   rename_i c;split at h0
   · rename_i args f hargs hf;split at h0
     · rename_i g first cap hg
       cases hc:fC P g with
       |false=>rw [hc]at h0;cases h0
       | true=>
        rw [hc]at h0;simp only [cond]at h0;cases h0;have hv:=hρ _ (by simp [Op.operands,Call.operands,hf]) _ hg;simp only [VR]at hv;obtain⟨a,b,hL,h1,h2⟩ :=hv;have hm:c.args.map ρ= ⟨c.args.toList.map ρ⟩ :=by apply Array.ext';simp
        refine nq (by simp [dF]) ?_;refine⟨{target:=.fn (.func g) ⟨b⟩,args:= ⟨a⟩ ++ ⟨c.args.toList.map ρ⟩},by simp [resolve,hf,hL,hm,Deferred.ofValue],⟨b,a++c.args.toList.map ρ,?_,(h1.append (hρ.list (fun x hx=>by simp only [Op.operands,Call.operands,Array.mem_append];exact .inr (by simpa using hx)) hargs)).append h2⟩⟩;congr 1;apply Array.ext';simp
     ·cases h0
   ·cases h0
 · -- panic
   obtain⟨a,ha,h0⟩ :=dC h0;split at h0
   · rename_i t v;cases h0;have hv:=hρ _ (by simp [Op.operands]) _ ha;refine nq (by simp [dF]) ?_;refine⟨_,?_,hv⟩;simp only [VR]at hv;obtain⟨u,hL,hu⟩ :=hv;simp [hL,Instr.panic]
   ·cases h0
 ·cases h0
end
end
end Go.Hb
