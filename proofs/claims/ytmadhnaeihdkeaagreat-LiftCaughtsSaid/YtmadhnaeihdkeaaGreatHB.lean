/- A machine on abstract values, its soundness, ways, plain laws. -/
import Derived.Test.YtmadhnaeihdkeaaGreatHA
import Derived.Lib.Strings
set_option linter.defProp false
set_option linter.unusedVariables false
set_option linter.unusedSimpArgs false
set_option linter.unusedSectionVars false
set_option maxRecDepth 100000
namespace Go.Hb
open Nat (add_assoc add_mul beq beq_eq ble blt le_refl mul_le_mul mul_le_mul_right)
open Option (getD)
noncomputable section
section
variable {P :Program} {E:Emb} {h h':Hp} {w w':World}
theorem nN (l n:Nat) : (eQ l n).toList=aJ l n:=by rw [ByteArray.toList_eq];rfl
theorem yB {a b:ByteArray}(h:a.data.toList=b.data.toList) :a=b:=by
 cases a;cases b;simp at h;simp [h]
theorem aHz (l n l' a:Nat) :eQ l n++eQ l' a=eQ (l+l') (n % 256 ^ l+256 ^ l*a) :=by
 apply yB;simp [eQ,aBh]
theorem aFC (l n a b:Nat)(c:a≤b)(h2:b≤l) : (eQ l n).extract a b=eQ (b-a) (n / 256 ^ a) :=by
 rw [Lib.extract_eq];apply yB;simp only [eQ];rw [aDT,aDU _ _ _ (by omega)]
theorem aFD {op:BinOp}{l n l' b:Nat}{v:AV}(a:aJ9 op l n l' b=some v)(t:TypeId) :
  ∃cv,(binOp op t (.string (eQ l n)) (.string (eQ l' b))).run P w= .ok cv w∧VR E v cv:=by
 unfold aJ9 at a;cases op<;>simp only at a<;>try (cases a;done)
 · cases hb:ble (l+l') 1000000000 with
   |false=>rw [hb]at a;cases a
   | true=>
    rw [hb]at a;simp only [cond]at a;cases a;have c:=Nat.le_of_ble_eq_true hb;refine⟨.string (eQ l n++eQ l' b),?_,by rw [aHz];simp only [VR];rfl⟩;have:¬ (((eQ l n).size+ (eQ l' b).size:Nat) :Int) >IntKind.i64.max:=by
     rw [jU,jU];simp [IntKind.max,IntKind.signed,IntKind.bits];omega
    simp only [binOp,Op.stringOp,this,if_false];rfl
 · cases a;refine⟨_,by simp only [binOp,Op.stringOp,nN];rfl,?_⟩;simp only [VR,uR];congr 1;simp [Bool.beq_eq_decide_eq]
 · cases a;refine⟨_,by simp only [binOp,Op.stringOp,nN];rfl,?_⟩;simp only [VR,uR];congr 1;simp [Bool.beq_eq_decide_eq]
 · cases a;refine⟨_,by simp only [binOp,Op.stringOp,nN];rfl,?_⟩;simp only [VR]
 · cases a;refine⟨_,by simp only [binOp,Op.stringOp,nN];rfl,?_⟩;simp only [VR]
theorem aKh (d:Nat){t:TypeId}{x y:AV}{j i:Value}{b:Bool}(he:aeq P t x y=some b)(c:VR E x j)(e:VR E y i) :
  (Op.equalIn (d+1) t j i).run P w= .ok b w:=by
 unfold aeq at he;split at he<;>cases he<;>simp only [VR]at c e<;>rename_i f
 ·subst c e;simp [Op.equalIn,aB f]
 ·subst c e;simp [Op.equalIn,aB f]
 ·obtain⟨L,_,rfl⟩ :=e;subst c;simp [Op.equalIn,aB f]
 ·obtain⟨L,_,rfl⟩ :=c;subst e;simp [Op.equalIn,aB f]
 ·obtain⟨u,rfl,_⟩ :=e;subst c;simp [Op.equalIn,aB f]
 ·obtain⟨u,rfl,_⟩ :=c;subst e;simp [Op.equalIn,aB f]
 ·subst c e;simp [Op.equalIn,aB f]
 ·obtain⟨a,b,rfl,_⟩ :=e;subst c;simp [Op.equalIn,aB f]
 ·obtain⟨a,b,rfl,_⟩ :=c;subst e;simp [Op.equalIn,aB f]
 ·subst c e;simp [Op.equalIn,aB f]
 ·obtain⟨L,h,g,_,rfl,_⟩ :=e;subst c;simp [Op.equalIn,aB f]
 ·obtain⟨L,h,g,_,rfl,_⟩ :=c;subst e;simp [Op.equalIn,aB f]
 ·subst c e;simp [Op.equalIn,aB f]
 · rcases c with⟨k,_⟩ | ⟨L,a,g,_,rfl,_⟩
   ·omega
   ·subst e;simp [Op.equalIn,aB f]
theorem aEs {t:TypeId}{x y:AV}{c a:Value}{b:Bool}(he:aeq P t x y=some b)(d:VR E x c)(e:VR E y a) :
  (Op.equal t c a).run P w= .ok b w:=aKh 9999 he d e
theorem aEt (d:Nat){t:TypeId}{a:Array (String×TypeId)}(b:P.underlying t=some (.interface a)) : (Op.equalIn (d+1) t .nilIface .nilIface).run P w= .ok true w:=by
 simp [Op.equalIn,aB b]
theorem aEu {t:TypeId}{x y:AV}{f e:Value}{b:Bool}(he:aeq P t x y=some b)(c:VR E x f)(d:VR E y e)(X Y:Operand)(op:BinOp) :
  (eqGuard op t X Y f e).run P w= .ok () w∧ (op= .eql→binOp op t f e= (do pure (.bool (←Op.equal t f e)))) ∧ (op= .neq→binOp op t f e= (do pure (.bool (!(←Op.equal t f e))))) :=by
 unfold aeq at he;split at he<;>cases he<;>simp only [VR]at c d<;>rename_i j
 all_goals (first
  | (obtain⟨L,a,g,_,rfl,_⟩ :=c.resolve_left (fun h=>by have:=h.1;omega);subst d;refine⟨?_,fun h=>by subst h;simp [binOp],fun h=>by subst h;simp [binOp]⟩;cases op<;>simp [eqGuard])
  | (subst c d;refine⟨?_,fun h=>by subst h;simp [binOp],fun h=>by subst h;simp [binOp]⟩;cases op<;>simp [eqGuard])
  | (obtain⟨L,_,rfl⟩ :=d;subst c;refine⟨?_,fun h=>by subst h;simp [binOp],fun h=>by subst h;simp [binOp]⟩;cases op<;>simp [eqGuard])
  | (obtain⟨L,_,rfl⟩ :=c;subst d;refine⟨?_,fun h=>by subst h;simp [binOp],fun h=>by subst h;simp [binOp]⟩;cases op<;>simp [eqGuard])
  | (obtain⟨u,rfl,_⟩ :=d;subst c;refine⟨?_,fun h=>by subst h;simp [binOp],fun h=>by subst h;simp [binOp]⟩;cases op<;>simp [eqGuard])
  | (obtain⟨u,rfl,_⟩ :=c;subst d;refine⟨?_,fun h=>by subst h;simp [binOp],fun h=>by subst h;simp [binOp]⟩;cases op<;>simp [eqGuard])
  | (obtain⟨a,b,rfl,_⟩ :=d;subst c;refine⟨?_,fun h=>by subst h;simp [binOp],fun h=>by subst h;simp [binOp]⟩;cases op<;>simp [eqGuard])
  | (obtain⟨a,b,rfl,_⟩ :=c;subst d;refine⟨?_,fun h=>by subst h;simp [binOp],fun h=>by subst h;simp [binOp]⟩;cases op<;>simp [eqGuard])
  | (obtain⟨L,i,g,_,rfl,_⟩ :=d;subst c;refine⟨?_,fun h=>by subst h;simp [binOp],fun h=>by subst h;simp [binOp]⟩;cases op<;>simp [eqGuard])
  | (obtain⟨L,i,g,_,rfl,_⟩ :=c;subst d;refine⟨?_,fun h=>by subst h;simp [binOp],fun h=>by subst h;simp [binOp]⟩;cases op<;>simp [eqGuard]))
theorem sU (op:BinOp)(t:TypeId)(X Y:Operand)(k c:IntKind)(a b:Int) : (eqGuard op t X Y (.int k a) (.int c b)).run P w= .ok () w:=by
 cases op<;>simp [eqGuard]
theorem aHA (op:BinOp)(t:TypeId)(X Y:Operand)(a b:ByteArray) : (eqGuard op t X Y (.string a) (.string b)).run P w= .ok () w:=by
 cases op<;>simp [eqGuard]
theorem aKi {op:BinOp}{t:TypeId}{x y:AV}{j h:Value}{v:AV}(X Y:Operand)(c:aT1 P op t x y (isLit X) (isLit Y) =some v)(d:VR E x j)(e:VR E y h) :
  ∃cv,(do eqGuard op t X Y j h;binOp op t j h:Sem Value).run P w= .ok cv w∧VR E v cv:=by
 unfold aT1 at c;split at c
 · rename_i k a r b;simp only [VR]at d e;subst d e;split at c
   · split at c
     ·cases c
     · rename_i hb;cases c;exact⟨_,by simp [sU,binOp,Op.shift,hb];rfl,by simp [VR]⟩
   · split at c
     ·cases c
     · rename_i hb;cases c;exact⟨_,by simp [sU,binOp,Op.shift,hb];rfl,by simp [VR]⟩
   · rename_i p o;split at c
     · rename_i hk;subst hk;obtain⟨cv,f,g⟩ :=aFB (P:=P) (w:=w) (E:=E) c t p o;exact⟨cv,by simp [sU,f],g⟩
     ·cases c
 · rename_i l n q s;simp only [VR]at d e;subst d e;obtain⟨cv,f,g⟩ :=aFD (P:=P) (w:=w) (E:=E) c t;exact⟨cv,by simp [aHA,f],g⟩
 · simp only [VR]at d e;subst d e;cases hl: (isLit X||isLit Y)with
   |false=>rw [hl]at c;cases c
   | true=>
    rw [hl]at c;simp only [cond]at c;have m: (eqGuard op t X Y .nilIface .nilIface).run P w= .ok () w:=by
     cases op<;>first| (simp [eqGuard];done) | (cases X<;>cases Y<;>first| (simp [eqGuard];done) | (simp [isLit]at hl))
    split at c
    · rename_i i;cases c;refine⟨.bool true,?_,by simp [VR]⟩;have: (Op.equal t .nilIface .nilIface).run P w= .ok true w:=aEt 9999 i;simp [m,binOp,this]
    · rename_i i;cases c;refine⟨.bool false,?_,by simp [VR]⟩;have: (Op.equal t .nilIface .nilIface).run P w= .ok true w:=aEt 9999 i;simp [m,binOp,this]
    ·cases c
 · split at c
   · rename_i b hb;cases c;obtain⟨f,g,_⟩ :=aEu (w:=w) hb d e X Y .eql;exact⟨.bool b,by simp [f,g,aEs hb d e],by simp [VR]⟩
   · rename_i b hb;cases c;obtain⟨f,_,g⟩ :=aEu (w:=w) hb d e X Y .neq;exact⟨.bool (!b),by simp [f,g,aEs hb d e],by simp [VR]⟩
   ·cases c
theorem aNu {op:UnOp}{x v:AV}{c:Value}(a:aun op x=some v)(b:VR E x c) :∃cv,(Op.unary op c).run P w= .ok cv w∧VR E v cv:=by
 unfold aun at a;split at a<;>cases a<;>simp only [VR]at b<;>subst b
 ·exact⟨_,by simp [Op.unary,Op.intArith];rfl,by simp [VR,vR]⟩
 ·exact⟨_,by simp [Op.unary];rfl,by simp [VR]⟩
theorem vT :∀ {c:List AV} {n:Nat} {d:List Value},aBo c=some n→VRs E c d →
  d= (aJ c.length n).map fun b=>.int .u8 (b.toNat:Int)
 | [],n,d,h,e=>by simp [e.nil_inv,aJ]
 | a :: c,n,d,h,e=>by
  obtain⟨u,l,rfl,g,i⟩ :=e.cons_inv;unfold aBo at h;split at h
  ·rename_i f;cases f
  · rename_i m p f;cases f;split at h
    · rename_i hm;split at h
      · rename_i k hk;cases h;simp only [VR]at g;subst g;have j: (m.toNat+256*k) % 256=m.toNat:=by omega
        have o: (m.toNat+256*k) / 256=k:=by omega
        simp only [rY,aJ,dS,j,o];rw [vT hk i];congr 1;simp;omega
      ·cases h
    ·cases h
  ·cases h
theorem aDW (bs:List UInt8)(f:Value→ByteArray→Sem (ForInStep ByteArray))(c:∀ (b:UInt8) s,f (.int .u8 (b.toNat:Int)) s=pure (ForInStep.yield (s.push b))) :
  ∀ (s:ByteArray),(forIn (m:=Sem) (bs.map fun b=>Value.int .u8 (b.toNat:Int)) s f).run P w= .ok ⟨⟨s.data.toList++bs⟩⟩ w:=by
 induction bs with
 |nil=>intro s;simp
 | cons b bs a=>
  intro s;simp only [dS,List.forIn_cons,Sem.run_bind,c,Sem.run_pure,Result.andThen_ok];have:=a (s.push b);simp at this ⊢;exact this
theorem run_bytesToString {a:Addr}{len cap:Nat}{bs:List UInt8}(h: (loadCells a len).run P w= .ok ⟨bs.map fun b=>Value.int .u8 (b.toNat:Int)⟩ w) :
  (Conv.bytesToString (.slice (some a) len cap)).run P w= .ok (.string ⟨⟨bs⟩⟩) w:=by
 simp only [Conv.bytesToString,Sem.run_bind,h,Result.andThen_ok]
 rw [show(⟨List.map (fun b:UInt8=>Value.int IntKind.u8 (b.toNat:Int)) bs⟩ :Array Value) = (List.map (fun b:UInt8=>Value.int IntKind.u8 (b.toNat:Int)) bs).toArray from rfl,List.forIn_toArray,
  aDW bs _ (fun b s=>by simp)]
 rfl
theorem aFE (n:Int)(h:0≤n∧n<128) :Utf8.encode n=eQ 1 n.toNat:=by
 have a:Utf8.valid n=true:=by simp [Utf8.valid];omega
 have hc:n.toNat<0x80:=by omega
 apply yB;simp only [Utf8.encode,a,if_true,hc,eQ,aJ];rw [show n.toNat % 256=n.toNat by omega]
theorem aB6 (r:Rel E h w.heap){s d:TypeId}{x v:AV}{p:Value}(a:sH P h s d x=some v)(f:VR E x p) :
  ∃cv,(convert s d p).run P w= .ok cv w∧VR E v cv:=by
 unfold sH at a;split at a
 · rename_i c hd;cases a;simp only [VR]at f;subst f;exact⟨_,by simp [convert,aB c,aB hd,Conv.intToInt];rfl,by simp [VR,vR]⟩
 · rename_i c hd;split at a
   · rename_i m;cases a;simp only [VR]at f;subst f;exact⟨_,by simp [convert,aB c,aB hd,Conv.intToString];rfl,by simp [VR,aFE _ m]⟩
   ·cases a
 · rename_i c hd;cases a;simp only [VR]at f;subst f;exact⟨_,by simp [convert,aB c,aB hd];rfl,by simp [VR]⟩
 · rename_i e b t len z C x c hd;split at a
   · rename_i k he hl;simp only [VR]at f;obtain⟨L,i,j,hE,rfl,I,D,H,A,G⟩ :=f;obtain⟨F,y,q,u⟩ :=aB5 r hl hE;unfold sG at a;split at a
     · rename_i n m;cases a;have o:=vT m q;have g:k.length=len:=by rw [←q.length,u]
       refine⟨.string (eQ k.length n),?_,by simp [VR]⟩;by_cases B:j=0
       · -- an empty slice of no room:nothing is read
         have l:len=0:=by omega
         subst l;have: (loadCells ⟨L.blk,i,none⟩ 0).run P w= .ok ⟨(aJ k.length n).map fun b=>Value.int .u8 (b.toNat:Int)⟩ w:=by
          rw [g];simp [loadCells,loadCellsFrom,aJ]
         simp only [convert,Sem.run_bind,aB c,aB hd,Result.andThen_ok,aB he];exact run_bytesToString this
       · have:=A B;subst this;simp only [convert,Sem.run_bind,aB c,aB hd,Result.andThen_ok,aB he];exact run_bytesToString (by rw [y P,o])
     ·cases a
   ·cases a
 ·cases a
def OVR (E:Emb) :Option AV→Option Value→Prop
 |none,none=>True
 |some a,some c=>VR E a c
 |_,_=>False
def NVR :Option Nat→Option Value→Prop
 |none,none=>True
 |some n,some c=>∃k,c= .int k (n:Int)
 |_,_=>False
theorem pE {x:Option AV}{cx:Option Value}{m:Option Nat}(h:eH x=some m)(a:OVR E x cx) :NVR m cx:=by
 unfold eH at h;split at h
 ·cases h;cases cx<;>simp_all [OVR,NVR]
 · split at h
   · rename_i b;cases h;cases cx with
     |none=>exact a
     |some c=>simp only [OVR,VR]at a;exact⟨_,by rw [a];congr 1;omega⟩
   ·cases h
 ·cases h
theorem gJ (k:IntKind)(i:Nat)(y:Nat)(code:BoundsCode)(a:i≤y) : (Instr.sliceBound (.int k (i:Int)) y code).run P w= .ok i w:=by
 have: (0:Int) ≤i∧ (i:Int) ≤y:=by omega
 simp [Instr.sliceBound,asIntOf,this]
theorem fV {isS:Bool}{len cap:Nat}{lo g i:Option Nat}{f d e:Option Value}(j:NVR lo f)(h2:NVR g d)(k:NVR i e)(hm:i.isSome=true→g.isSome=true)
  (a:lo.getD 0≤g.getD len) (b:g.getD len≤i.getD cap) (c:i.getD cap≤cap) :
  (Instr.sliceBounds isS len cap f d e).run P w= .ok (lo.getD 0,g.getD len,i.getD cap) w:=by
 cases lo<;>cases g<;>cases i<;>cases f<;>cases d<;>cases e<;>simp only [NVR]at j h2 k<;>simp only [Option.isSome,getD]at hm a b c ⊢
 case some.some.some.some.some.some l h m _ _ _=>
  obtain⟨o,rfl⟩ :=j;obtain⟨n,rfl⟩ :=h2;obtain⟨p,rfl⟩ :=k;simp [Instr.sliceBounds,gJ _ _ _ _ c,gJ _ _ _ _ b,gJ _ _ _ _ a]
 case none.some.some.none.some.some=>
  obtain⟨n,rfl⟩ :=h2;obtain⟨p,rfl⟩ :=k;simp [Instr.sliceBounds,gJ _ _ _ _ c,gJ _ _ _ _ b]
 case some.some.none.some.some.none=>
  obtain⟨o,rfl⟩ :=j;obtain⟨n,rfl⟩ :=h2;simp [Instr.sliceBounds,gJ _ _ _ _ b,gJ _ _ _ _ a]
 case none.some.none.none.some.none=>
  obtain⟨n,rfl⟩ :=h2;simp [Instr.sliceBounds,gJ _ _ _ _ b]
 case some.none.none.some.none.none=>
  obtain⟨o,rfl⟩ :=j;simp [Instr.sliceBounds,gJ _ _ _ _ a]
 case none.none.none.none.none.none=>simp [Instr.sliceBounds]
 all_goals (simp at hm)
theorem aFF {t:TypeId}{x v:AV}{F:Value}{lo i o:Option Nat}{q p j:Option Value}(d:oD P t x lo i o=some v)(l:VR E x F)
  (A:NVR lo q) (h2:NVR i p) (z:NVR o j) :∃cv,(Instr.sliceAt t F q p j).run P w= .ok cv w∧VR E v cv:=by
 unfold oD at d;split at d
 · rename_i len n r;split at d
   ·cases d
   · simp only at d;cases hb: (ble (lo.getD 0) (i.getD len) &&ble (i.getD len) len)with
     |false=>rw [hb]at d;cases d
     | true=>
      rw [hb]at d;simp only [cond]at d;cases d;simp only [gG,dC,decide_eq_true_eq]at hb;simp only [VR]at l;subst l;cases j with
      |some c=>exact z.elim
      | none=>
       refine⟨.string ((eQ len n).extract (lo.getD 0) (i.getD len)),?_,by simp only [VR];rw [aFC _ _ _ _ hb.1 hb.2];rfl⟩;have:=fV (P:=P) (w:=w) (isS:=false) (len:=len) (cap:=len) A h2 (show NVR none none from trivial) (by simp) hb.1 (by simpa using hb.2) (le_refl _);simp [Instr.sliceAt,Instr.slice,aB r,jU,this]
 · rename_i e b K len cap H exact r;simp only at d;split at d
   ·cases d
   · rename_i sz g;cases hb: (beq sz H&&ble (lo.getD 0) (i.getD len) &&ble (i.getD len) cap)with
     |false=>rw [hb]at d;cases d
     | true =>
      rw [hb]at d;simp only [cond]at d;simp only [gG,aZ,dC,decide_eq_true_eq]at hb;obtain⟨⟨rfl,k⟩,C⟩ :=hb;simp only [VR]at l;obtain⟨L,f,a,hE,rfl,M,O,J,I,N⟩ :=l;cases o with
      | some m =>cases i with
       |none=>cases d
       | some hh=>
        simp only at d;cases hb: (ble (getD (some hh) len) m&&ble m cap)with
        |false=>rw [hb]at d;cases d
        | true =>
         rw [hb]at d;simp only [cond]at d;cases d;simp only [gG,dC,decide_eq_true_eq,Option.getD_some]at hb k C;have:=fV (P:=P) (w:=w) (isS:=true) (len:=len) (cap:=a) A h2 z (by simp) (by simpa using k) (by simpa using hb.1) (by simp;omega);refine⟨.slice (if m=lo.getD 0 then some ⟨L.blk,f,none⟩else some ⟨L.blk,f+lo.getD 0*sz,none⟩) (hh-lo.getD 0) (m-lo.getD 0),?_,?_⟩
         ·simp [Instr.sliceAt,Instr.slice,aB r,this,bM g,dW]
         · simp only [VR];by_cases y:m=lo.getD 0
           · rw [if_pos y];have B:lo.getD 0*sz≤a*sz:=mul_le_mul_right _ (by omega);exact⟨L,f,m-lo.getD 0,hE,rfl,by simp;omega,by omega,fun _=>rfl,fun u=>by omega,by rw [show m-lo.getD 0=0 by omega];omega⟩
           · rw [if_neg y];have u:a≠0:=by have:lo.getD 0≤hh:=k;omega
             have B:m*sz≤a*sz:=mul_le_mul_right _ (by omega);have D:f+lo.getD 0*sz+ (m-lo.getD 0) *sz=f+m*sz:=by
              rw [add_assoc,←add_mul,show lo.getD 0+ (m-lo.getD 0) =m by have:lo.getD 0≤hh:=k;omega]
             exact⟨L,_,m-lo.getD 0,hE,rfl,by simp;omega,by omega,fun _=>rfl,fun _=>by rw [I u];omega,by rw [D];omega⟩
      | none =>
       simp only at d;cases d;cases j with
       |some c=>exact z.elim
       | none =>
        have:=fV (P:=P) (w:=w) (isS:=true) (len:=len) (cap:=a) A h2 (show NVR none none from trivial) (by simp) k (by simp;omega) (le_refl _);refine⟨.slice (if a=lo.getD 0 then some ⟨L.blk,f,none⟩else some ⟨L.blk,f+lo.getD 0*sz,none⟩) (i.getD len-lo.getD 0) (a-lo.getD 0),?_,?_⟩
        ·simp [Instr.sliceAt,Instr.slice,aB r,this,bM g,dW]
        · simp only [VR];by_cases y:a=lo.getD 0
          · rw [if_pos y];exact⟨L,f,a-lo.getD 0,hE,rfl,by omega,by omega,fun l=>by rw [J l],fun u=>by omega,by rw [show a-lo.getD 0=0 by omega];omega⟩
          · rw [if_neg y];have u:a≠0:=by omega
            have D:f+lo.getD 0*sz+ (a-lo.getD 0) *sz=f+a*sz:=by
             rw [add_assoc,←add_mul,show lo.getD 0+ (a-lo.getD 0) =a by omega]
            exact⟨L,_,a-lo.getD 0,hE,rfl,by omega,by omega,fun l=>by rw [J l],fun _=>by rw [I u];omega,by rw [D];omega⟩
 · rename_i e r
   have s:∀ {sz},aR P e=some sz→ (o.isSome=true→i.isSome=true) → (bif beq (lo.getD 0) 0&&beq (i.getD 0) 0&&beq (o.getD 0) 0 then some AV.nils else none) =some v →
     ∃cv,(Instr.sliceAt t F q p j).run P w= .ok cv w∧VR E v cv:=by
    intro sz g G d;cases hb: (beq (lo.getD 0) 0&&beq (i.getD 0) 0&&beq (o.getD 0) 0)with
    |false=>rw [hb]at d;cases d
    | true=>
     rw [hb]at d;simp only [cond]at d;cases d;simp only [aZ,dC,decide_eq_true_eq]at hb;simp only [VR]at l;subst l;have:=fV (P:=P) (w:=w) (isS:=true) (len:=0) (cap:=0) A h2 z G (by omega) (by omega) (by omega);refine⟨.slice none 0 0,?_,by simp [VR]⟩;simp [Instr.sliceAt,Instr.slice,aB r,this,bM g,hb]
   cases g:aR P e with
   |none=>rw [g]at d;cases o<;>cases i<;>cases d
   | some sz=>
    rw [g]at d;cases o with
    |none=>exact s g (fun h=>by cases h) d
    | some m=>cases i with
     |none=>cases d
     |some hh=>exact s g (fun _=>rfl) d
 ·cases d
theorem aB7 (off:Nat) :∀ (l:List Value) (k:Nat) (a:Array Value),(l.zipIdx k).foldl (fun a (p:Value×Nat) =>a.setIfInBounds (off+p.2) p.1) a=over a (off+k) l
 | [],_,_=>rfl
 | v::l,k,a=>by
  simp only [List.zipIdx_cons,List.foldl_cons,over];rw [aB7 off l (k+1),add_assoc]
theorem qC {e:Nat→Option (Nat×Nat)}:∀ {n:List (Nat×AV)} {qs:List (Nat×Value)} {c h:List AV} {d:Array Value},fE e c n=some h →
  n.map (·.1) =qs.map (·.1) →VRs E (n.map (·.2)) (qs.map (·.2)) →VRs E c d.toList→∃out,Instr.fill e d qs=some out∧VRs E h out.toList
 | [],qs,c,h,d,f,hk,_,l=>by
  simp [fE]at f;subst f;have:qs= [] :=by cases qs with|nil=>rfl|cons _ _=>simp at hk
  subst this;exact⟨d,rfl,l⟩
 | (i, a) ::n,qs,c,h,d,f,hk,y,l=>by
  cases qs with
  |nil=>simp at hk
  | cons q qs=>
   obtain⟨j,u⟩ :=q;simp only [dS,List.cons.injEq]at hk;obtain⟨rfl,hk⟩ :=hk;obtain⟨G,I,he,t,B⟩ :=y.cons_inv;simp only [dS,List.cons.injEq]at he;obtain⟨rfl,rfl⟩ :=he;simp only [fE]at f;split at f
   ·cases f
   · rename_i b size F;cases hb: (beq a.cells.length size&&ble (b+size) c.length)with
     |false=>rw [hb]at f;cases f
     | true =>
      rw [hb]at f;simp only [cond]at f;simp only [gG,aZ,dC,decide_eq_true_eq]at hb;have o:u.cells.size=size:=by rw [←hb.1,←t.cells.length];simp
      have w:d.size=c.length:=by rw [←l.length];simp
      have m:VRs E (c.take b++a.cells++c.drop (b+size)) (over d b u.cells.toList).toList:=by
       refine VRs.of_get (by simp [jW];omega) fun k x g=>?_;rw [oZ,jG _ _ _ _ (by simp;omega)];simp only [Array.length_toList,o];by_cases A:k<b
       · rw [zq9,wL (by simp;omega),List.getElem?_take_of_lt A]at g;rw [if_neg (by omega)];obtain⟨v,s,r⟩ :=l.get k x g;exact⟨v,by simpa using s,r⟩
       · by_cases H:k<b+size
         · rw [wL (by simp;omega),aDR (by simp;omega)]at g;simp only [List.length_take]at g;rw [show min b c.length=b by omega]at g;rw [if_pos (by omega)];exact t.cells.get _ x g
         · rw [aDR (by simp;omega),List.getElem?_drop]at g;simp only [pU,List.length_take]at g;rw [show b+size+ (k- (min b c.length+a.cells.length)) =k by omega]at g;rw [if_neg (by omega)];obtain⟨v,s,r⟩ :=l.get k x g;exact⟨v,by simpa using s,r⟩
      obtain⟨out,D,C⟩ :=qC f hk B m;refine⟨out,?_,C⟩;have:u.cells.zipIdx.foldl (fun h (p:Value×Nat) =>h.setIfInBounds (b+p.2) p.1) d=over d b u.cells.toList:=by
       rw [←Array.foldl_toList,Array.toList_zipIdx,aB7];rfl
      simp only [Instr.fill,F];rw [if_neg (by simp;omega)];rw [←D];exact congrArg (fun z=>Instr.fill e z qs) this
theorem aBi (l:List Field)(hl:∀f∈l,∃n,aR P f.type=some n) :
  ((l.mapM fun f=>do pure (f.offset,←sizeOf f.type) :Sem (List (Nat×Nat)))).run P w= .ok (l.map fun f=> (f.offset,(aR P f.type).getD 0)) w:=by
 induction l with
 |nil=>simp
 | cons f l b=>
  obtain⟨n,a⟩ :=hl f (dJ ..);have:=b (fun g c=>hl g (dR _ c));simp only [List.mapM_cons,Sem.run_bind,bM a,Result.andThen_ok,Sem.run_pure,dS,a,getD]at this ⊢;rw [this];rfl
theorem aFG {t:TypeId}{ps:List (Nat×AV)}{qs:Array (Nat×Value)}{v:AV}(a:aKa P t ps=some v)(hk:ps.map (·.1) =qs.toList.map (·.1))(r:VRs E (ps.map (·.2)) (qs.toList.map (·.2))) :
  ∃cv,(Instr.build t qs).run P w= .ok cv w∧VR E v cv:=by
 unfold aKa at a;split at a
 · rename_i z fs hz j;obtain⟨u,l,p⟩ :=eX hz;split at a
   · rename_i x c;cases hb: (fs.all fun f=> (aR P f.type).isSome)with
     |false=>rw [hb]at a;cases a
     | true=>
      rw [hb]at a;simp only [cond]at a;cases a
      have b:∀f∈fs.toList,∃n,aR P f.type=some n:=fun f o=>by
       rw [Array.all_eq_true]at hb;obtain⟨i,q,rfl⟩ :=List.getElem_of_mem o;have:=hb i (by simpa using q);exact Option.isSome_iff_exists.1 (by simpa using this)
      have hm: (fs.mapM fun f=>do pure (f.offset,←sizeOf f.type) :Sem (Array (Nat×Nat))).run P w= .ok (fs.map fun(f:Field) => (f.offset,(aR P f.type).getD 0)) w:=by
       rw [Array.mapM_eq_mapM_toList];simp only [Sem.run_map,aBi (w:=w) fs.toList b,Result.andThen_ok];refine congrArg (fun z=>Result.ok z w) ?_;apply Array.ext';simp
      obtain⟨out,k,g⟩ :=qC c hk r (p E).cells;refine⟨.agg out,?_,by simp only [VR];exact⟨_,rfl,g⟩⟩
      have h: (fun(i:Nat) => (fs.map fun(f:Field) => (f.offset,(aR P f.type).getD 0))[i]?) = (fun(i:Nat) =>match(fs[i]?:Option Field)with
        | some f=>match aR P f.type with
         |some s=>some (f.offset,s)
         |none=>none
        |none=>none) :=by
       funext i
       rw [Array.getElem?_map];cases o:fs[i]? with
       |none=>rfl
       | some f=>
        have d:f∈fs.toList:=by
         have:=zq44.1 o;obtain⟨q,rfl⟩ :=this;simp
        obtain⟨n,A⟩ :=b f d;simp [A]
      simp only [Instr.build,Sem.run_bind,l,Result.andThen_ok,aB j,hm];have m:Instr.fill (fun(i:Nat) => (fs.map fun(f:Field) => (f.offset,(aR P f.type).getD 0))[i]?) u.cells qs.toList=some out:=by
       rw [h];exact k
      rw [m];rfl
   ·cases a
 · rename_i z e n hz j;obtain⟨u,l,p⟩ :=eX hz;split at a
   ·cases a
   · rename_i s y;split at a
     · rename_i x c;cases a;obtain⟨out,k,g⟩ :=qC c hk r (p E).cells;refine⟨.agg out,?_,by simp only [VR];exact⟨_,rfl,g⟩⟩;simp only [Instr.build,Sem.run_bind,l,Result.andThen_ok,aB j,bM y,k];rfl
     ·cases a
 ·cases a
theorem kU (cs:List AV) :∀n,(jR cs n).length=n*cs.length
 |0=>by simp [jR]
 |n+1=>by rw [jR,pU,kU cs n,Nat.succ_mul];omega
theorem aHB (cs:List AV)(b:0<cs.length) :∀n i,i<n*cs.length→ (jR cs n)[i]?=cs[i % cs.length]?
 |0,i,h=>by simp at h
 | n+1,i,h=>by
  rw [jR];by_cases a:i<cs.length
  ·rw [wL a,Nat.mod_eq_of_lt a]
  · rw [aDR (by omega),aHB cs b n _ (by rw [Nat.succ_mul]at h;omega)];rw [←Nat.mod_eq_sub_mod (by omega)]
theorem aAe {b:List AV}{z:Array Value}(hz:VRs E b z.toList)(n:Nat)(g:0<z.size) :
  VRs E (jR b n) ((Array.range (n*z.size)).map (fun i=>z[i % z.size]!)).toList:=by
 have hl:=hz.length;simp only [Array.length_toList]at hl;refine VRs.of_get (by simp [kU,hl]) fun i a c=>?_;have d:i<n*b.length:=by have:= (zq0.1 c).1;rwa [kU]at this
 rw [aHB _ (by omega) _ _ d]at c;obtain⟨v,e,f⟩ :=hz.get _ a c;refine⟨v,?_,f⟩;rw [oZ,Array.getElem?_map,Array.getElem?_range];rw [←hl]at d e;simp only [d,if_true,Option.map_some];simp only [oZ]at e;rw [Array.getElem!_eq_getD,wM,e];rfl
theorem nO (r:Rel E h w.heap){t:TypeId}{len s:Nat}{ps:List (Nat×AV)}{qs:Array (Nat×Value)}{cs:List AV}(d:nG P t len ps=some (cs,s))(hk:ps.map (·.1) =qs.toList.map (·.1))(H:VRs E (ps.map (·.2)) (qs.toList.map (·.2))) :
  ∃ (out:List Value) (e:TypeId),VRs E cs out∧len*s≤out.length∧∀w,(Instr.buildSlice t len qs).run P w= .ok (.slice (some ⟨w.heap.size,0,none⟩) len len) {w with heap:=w.heap.push (.cells ⟨out⟩ e)}:=by
 unfold nG at d;split at d
 · rename_i e u;split at d
   · rename_i o z v hz;cases hb: (ble (len*o) 1000&& !(beq o 0) &&beq z.cells.length o)with
     |false=>rw [hb]at d;cases d
     | true =>
      rw [hb]at d;simp only [cond]at d;simp only [gG,aZ,dC,decide_eq_true_eq,Bool.not_eq_true',decide_eq_false_iff_not]at hb;split at d
      · rename_i D i;cases d;obtain⟨K,G,B⟩ :=eX hz;have m:= (B E).cells.length;simp only [Array.length_toList]at m;have k:K.cells.size=s:=by omega
        have y:=aAe (B E).cells len (by omega);rw [k]at y;obtain⟨out,q,A⟩ :=qC i hk H y;have I :out.toList.length=len*s:=by
         have F:=A.length;have C:∀ {ps:List (Nat×AV)} {c:Nat→Option (Nat×Nat)} {a b:List AV},fE c a ps=some b→b.length=a.length:=by
          intro ps
          induction ps with
          |nil=>intro c a b f;simp [fE]at f;rw [f]
          | cons p ps J=>
           intro c a b f;simp only [fE]at f;split at f
           ·cases f
           · rename_i n size _;cases hc: (beq p.2.cells.length size&&ble (n+size) a.length)with
             |false=>rw [hc]at f;cases f
             | true=>
              rw [hc]at f;simp only [cond]at f;simp only [gG,aZ,dC,decide_eq_true_eq]at hc;rw [J f];simp;omega
         rw [F,C i,kU];rw [hb.2]
        refine⟨out.toList,e,A,by omega,fun w=>?_⟩;have g:¬len*s>2 ^ 24:=by omega
        by_cases x:len*s=0
        · have l:len=0:=by
           rcases Nat.mul_eq_zero.1 x with h|h
           ·exact h
           ·omega
          subst l;have j:Array.range 0= #[] :=rfl;simp only [Nat.zero_mul,j,List.map_toArray,List.map_nil]at q;simp [Instr.buildSlice,aB u,bM v,j,q,newRow]
        · simp only [Instr.buildSlice,Sem.run_bind,aB u,Result.andThen_ok,bM v,g,if_false,Sem.run_pure,x,G];simp only [k];simp [q,newRow]
      ·cases d
   ·cases d
 ·cases d
theorem dG {r:Nat}{a:Array MapEntry}{c:Nat}(hr:w.heap[r]?=some (.map a c)) : (getObj r).run P w= .ok (.map a c) w:=by
 simp [getObj,Sem.run,hr]
theorem mK {r:Nat}{ob ob':Obj}(hr:w.heap[r]?=some ob)(hc:∀c e f,ob≠ .cells c e f) : (setObj r ob').run P w= .ok () (bP w r ob') :=by
 cases ob<;>simp [setObj,Sem.run,hr,bP] <;>exact absurd rfl (hc _ _ _)
theorem aPK (a b:ByteArray) : (a==b) =decide (a=b) :=by
 cases a with|mk x=>cases b with|mk y=>
 show ByteArray.beq _ _=_;simp [ByteArray.beq,Bool.beq_eq_decide_eq]
theorem dM {d:TypeDesc}{k:AV}{a:Value}(h:plainKey d k=true)(hk:VR E k a) :
  (∃i kk n,d= .int i∧k= .int kk n∧a= .int kk n) ∨ (∃l n,d= .string∧k= .str l n∧a= .string (eQ l n)) ∨ (∃b,d= .bool∧k= .bool b∧a= .bool b) :=by
 unfold plainKey at h;split at h
 ·simp only [VR]at hk;exact .inl ⟨_,_,_,rfl,rfl,hk⟩
 ·simp only [VR]at hk;exact .inr (.inl ⟨_,_,rfl,rfl,hk⟩)
 ·simp only [VR]at hk;exact .inr (.inr ⟨_,rfl,rfl,hk⟩)
 ·cases h
theorem run_checkKey {t:TypeId}{d:TypeDesc}{k:AV}{a:Value}(e:Bool)(n:Nat)(c:P.underlying t=some d)(f:plainKey d k=true)(hk:VR E k a) :
  (Instr.checkKey e (n+1) t a).run P w= .ok () w:=by
 rcases dM f hk with⟨i,kk,m,rfl,rfl,rfl⟩ | ⟨l,m,rfl,rfl,rfl⟩ | ⟨b,rfl,rfl,rfl⟩ <;>simp [Instr.checkKey,aB c]
theorem wR {d:TypeDesc}{k f:AV}{h c:Value}{b:Bool}(j:plainKey d k=true)(hk:VR E k h)(a:VR E f c)(hc:lD k f=some b) :
  Instr.sameNow d h c=some b∧ (b=true→c=h) :=by
 rcases dM j hk with⟨i,kk,m,rfl,rfl,rfl⟩ | ⟨l,m,rfl,rfl,rfl⟩ | ⟨b,rfl,rfl,rfl⟩
 · cases f<;>simp only [lD]at hc<;>try (cases hc;done)
   split at hc
   · rename_i g;cases hc;simp only [VR]at a;subst g a;exact⟨by simp [Instr.sameNow],fun e=>by have:=beq_iff_eq.1 e;rw [this]⟩
   ·cases hc
 · cases f<;>simp only [lD]at hc<;>try (cases hc;done)
   cases hc;simp only [VR]at a;subst a;refine⟨?_,fun e=>?_⟩
   · simp only [Instr.sameNow,uR,aPK];congr 2;apply propext;constructor
     ·intro e;have:=congrArg (fun s:ByteArray=>s.data.toList) e;exact this
     ·intro e;exact yB e
   · rw [uR]at e;have:=of_decide_eq_true e;simp only [eQ,this]
 · cases f<;>simp only [lD]at hc<;>try (cases hc;done)
   cases hc;simp only [VR]at a;subst a;exact⟨by simp [Instr.sameNow],fun e=>by have:=beq_iff_eq.1 e;rw [this]⟩
theorem iF {d:TypeDesc}{k:AV}{l:Value}(m:plainKey d k=true)(hk:VR E k l) :∀ {h:List (AV×AV×Nat)} {c:List MapEntry} {i:Nat} {r:Option (Nat×AV)},ERs E h c→nH k h i=some r →
  match r with
  |none=>Instr.findNow d l c i=some none
  |some (j,v) =>∃e g,i≤j∧h[j-i]?=some g∧c[j-i]?=some e∧Instr.findNow d l c i=some (some (j,e.val)) ∧VR E v e.val∧g.2.1=v∧e.key=l
 | [],c,i,r,he,b=>by
  simp [ERs]at he;simp [nH]at b;subst he b;rfl
 | a ::h,c,i,r,he,b=>by
  simp only [ERs]at he;obtain⟨u,C,rfl,n,o,D,s⟩ :=he;simp only [nH]at b;split at b
  · rename_i hc;cases b;obtain⟨f,w⟩ :=wR m hk n hc;exact⟨u,a,le_refl _,by simp,by simp,by simp [Instr.findNow,f],o,rfl,w rfl⟩
  · rename_i hc;obtain⟨f,_⟩ :=wR m hk n hc;have:=iF m hk s b;cases r with
    |none=>simp only at this ⊢;simp [Instr.findNow,f,this]
    | some z=>
     obtain⟨j,v⟩ :=z;simp only at this ⊢;obtain⟨e,g,B,t,x,A,q,y,p⟩ :=this;refine⟨e,g,by omega,?_,?_,by simp [Instr.findNow,f,A],q,y,p⟩
     ·rw [show j-i= (j-Nat.succ i) +1 by omega];simpa using t
     ·rw [show j-i= (j-Nat.succ i) +1 by omega];simpa using x
  ·cases b
theorem ERs.length {b:List (AV×AV×Nat)}{c:List MapEntry}(he:ERs E b c) :c.length=b.length:=by
 induction b generalizing c with
 |nil=>simp [ERs]at he;subst he;rfl
 |cons a b d=>simp only [ERs]at he;obtain⟨u,f,rfl,_,_,_,e⟩ :=he;simp [d e]
theorem ERs.snoc {c:List (AV×AV×Nat)}{d:List MapEntry}(he:ERs E c d){k v:AV}{e cv:Value}{b:Nat}(hk:VR E k e)(j:VR E v cv) :ERs E (c++ [(k,v,b)]) (d++ [{key:=e,val:=cv,born:=b}]) :=by
 induction c generalizing d with
 |nil=>simp [ERs]at he;subst he;simp only [List.nil_append,ERs];exact⟨_,[],rfl,hk,j,rfl,rfl⟩
 |cons a c f=>simp only [ERs]at he;obtain⟨u,m,rfl,l,g,h,i⟩ :=he;simp only [aDS,ERs];exact⟨u,_,rfl,l,g,h,f i⟩
theorem ERs.setE {b:List (AV×AV×Nat)}{c:List MapEntry}(he:ERs E b c){k v:AV}{j cv:Value}(hk:VR E k j)(n:VR E v cv)(i:Nat)(f:MapEntry→MapEntry)(h:∀e,c[i]?=some e→f e= {e with key:=j,val:=cv}) :
  ERs E (Hb.setE k v b i) (c.modify i f) :=by
 induction b generalizing c i with
 |nil=>simp [ERs]at he;subst he;simp [Hb.setE,ERs]
 | cons a b p=>
  simp only [ERs]at he;obtain⟨u,m,rfl,o,l,d,g⟩ :=he;cases i with
  | zero=>
   have:=h u rfl;simp only [Hb.setE,List.modify_zero_cons,ERs,this];exact⟨_,m,rfl,hk,n,d,g⟩
  | succ i=>
   simp only [Hb.setE,List.modify_succ_cons,ERs];exact⟨u,_,rfl,o,l,d,p g i (fun e he=>h e (by simpa using he))⟩
theorem aNv {b:List (AV×AV×Nat)}{d:List MapEntry}(he:ERs E b d)(i:Nat)(e:MapEntry)(c:d[i]?=some e) :e.born=aFr b i:=by
 induction b generalizing d i with
 |nil=>simp [ERs]at he;subst he;simp at c
 | cons a b f=>
  simp only [ERs]at he;obtain⟨u,k,rfl,l,j,g,h⟩ :=he;cases i with
  |zero=>simp at c;subst c;exact g
  |succ i=>exact f h i (by simpa using c)
theorem sV {d:TypeDesc}{k:AV}{a:Value}(c:plainKey d k=true)(hk:VR E k a)(n:Nat) :Instr.sameBits n a a=true:=by
 rcases dM c hk with⟨i,kk,m,rfl,rfl,rfl⟩ | ⟨l,m,rfl,rfl,rfl⟩ | ⟨b,rfl,rfl,rfl⟩ <;>cases n<;>simp [Instr.sameBits,aPK]
theorem aB8 {b:Type}{a:Array b}{i:Nat}{x:b}(h:a.toList[i]?=some x) :a[i]?=some x:=by simpa using h
theorem aDX (r:Rel E h w.heap){t:TypeId}{x k v:AV}{C q:Value}{ok:Bool}(a:aBp P h t x k ok=some v)(g:VR E x C)(hk:VR E k q) :
  ∃cv,(Instr.lookup t C q ok).run P w= .ok cv w∧VR E v cv:=by
 unfold aBp at a;split at a
 · rename_i F K o;split at a
   · rename_i kd z c hz;cases f:plainKey kd k with
     |false=>rw [f]at a;cases a
     | true =>
      rw [f]at a;simp only [cond]at a;obtain⟨j,A,l⟩ :=eX hz;have d:∀e,(Instr.checkKey e 10000 F q).run P w= .ok () w:=fun e=>run_checkKey e 9999 c f hk;split at a
      · cases a;simp only [VR]at g;subst g;refine⟨if ok then .tuple #[j,.bool false]else j,?_,?_⟩
        ·simp [Instr.lookup,aB o,d,Instr.findKey,aB c,Instr.findNow,A]
        · cases ok
          ·exact l E
          ·simp only [VR,if_true];exact⟨_,rfl,VRs.cons (l E) (VRs.cons (by simp [VR]) (VRs.nil E))⟩
      · rename_i m;simp only [VR]at g;obtain⟨L,hE,rfl⟩ :=g;split at a
        · rename_i J n hm;obtain⟨M,D,H,B,y⟩ :=r.obj _ _ hm;rw [hE]at D;cases D;split at a
          · rename_i i u p;cases a;have b:=iF f hk y p;simp only at b;obtain⟨e,I,_,_,_,G,s,_⟩ :=b;refine⟨if ok then .tuple #[e.val,.bool true]else e.val,?_,?_⟩
            ·simp [Instr.lookup,aB o,dG B,d,Instr.findKey,aB c,G]
            · cases ok
              ·exact s
              ·simp only [VR,if_true];exact⟨_,rfl,VRs.cons s (VRs.cons (by simp [VR]) (VRs.nil E))⟩
          · rename_i p;cases a;have b:=iF f hk y p;simp only at b;refine⟨if ok then .tuple #[j,.bool false]else j,?_,?_⟩
            ·simp [Instr.lookup,aB o,dG B,d,Instr.findKey,aB c,b,A]
            · cases ok
              ·exact l E
              ·simp only [VR,if_true];exact⟨_,rfl,VRs.cons (l E) (VRs.cons (by simp [VR]) (VRs.nil E))⟩
          ·cases a
        ·cases a
      ·cases a
   ·cases a
 ·cases a
theorem aB9 {m:Nat}{L:Loc}{f b:List (AV×AV×Nat)}{a clock':Nat}{g ES':Array MapEntry}(r:Rel E h w.heap)(hm:h.look m=some (.map f a))(hE:E m=some L)
  (c:w.heap[L.blk]?=some (.map g a)) (he:ERs E b ES'.toList) :
  (∀P,(setObj L.blk (.map ES' clock')).run P w= .ok () (bP w L.blk (.map ES' clock'))) ∧Rel E (h.set m (.map b clock')) (bP w L.blk (.map ES' clock')).heap ∧
   Ext E h w E (h.set m (.map b clock')) (bP w L.blk (.map ES' clock')) :=by
 have:=r.setObj (o':=.map b clock') (.map ES' clock') hm hE rfl rfl (fun i d=> ⟨ES',d,he⟩);exact⟨fun P=>mK c (fun _ _ _ e=>by cases e),this.1,this.2⟩
theorem oM {b:Type}(a:Array b)(i:Nat)(f:b→b) : (a.modify i f).toList=a.toList.modify i f:=by simp
theorem pF (r:Rel E h w.heap){t:TypeId}{x k v:AV}{D j cv:Value}(a:mD P h t x k v=some h')(B:VR E x D)(hk:VR E k j)(A:VR E v cv) :
  ∃w',(Instr.mapUpdate t D j cv).run P w= .ok () w'∧Rel E h' w'.heap∧Ext E h w E h' w':=by
 unfold mD at a;split at a
 · rename_i G O m z;split at a
   · rename_i kd M b d hm;cases f:plainKey kd k with
     |false=>rw [f]at a;cases a
     | true=>
      rw [f]at a;simp only [cond]at a;simp only [VR]at B;obtain⟨L,hE,rfl⟩ :=B;obtain⟨Q,C,F,n,l⟩ :=r.obj _ _ hm;rw [hE]at C;cases C;have g:∀e,(Instr.checkKey e 10000 G j).run P w= .ok () w:=fun e=>run_checkKey e 9999 d f hk;split at a
      · rename_i i u q;cases a;have c:=iF f hk l q;simp only [Nat.sub_zero]at c;obtain⟨e,K,_,_,I,J,N,_,H⟩ :=c;have p:=aB8 I;obtain⟨o,y,s⟩ :=aB9 (clock':=b) (ES':=F.modify i fun e=>{e with key:=j,val:=cv}) r hm hE n (by rw [oM];exact l.setE hk A i _ (fun _ _=>rfl));refine⟨_,?_,y,s⟩;simp [Instr.mapUpdate,aB z,dG n,g,Instr.findKey,aB d,J,Instr.keyThatStays,p,H,sV f hk,o P]
      · rename_i q;cases a;have c:=iF f hk l q;simp only at c;obtain⟨o,y,s⟩ :=aB9 (clock':=b+1) (ES':=F.push {key:=j,val:=cv,born:=b}) r hm hE n (by rw [Array.toList_push];exact l.snoc hk A);refine⟨_,?_,y,s⟩;simp [Instr.mapUpdate,aB z,dG n,g,Instr.findKey,aB d,c,o P]
      ·cases a
   ·cases a
 ·cases a
theorem aBj (r:Rel E h w.heap){t:TypeId}{x k v:AV}{J n:Value}(a:zZ P h t x k=some (v,h'))(G:VR E x J)(hk:VR E k n) :
  ∃F w',(Instr.mapEntry t J n).run P w= .ok F w'∧VR E v F∧Rel E h' w'.heap∧Ext E h w E h' w':=by
 unfold zZ at a;split at a
 · rename_i N V m C;split at a
   · rename_i kd Q b z d hm hz;cases f:plainKey kd k with
     |false=>rw [f]at a;cases a
     | true=>
      rw [f]at a;simp only [cond]at a;simp only [VR]at G;obtain⟨L,hE,rfl⟩ :=G;obtain⟨W,I,K,o,j⟩ :=r.obj _ _ hm;rw [hE]at I;cases I;obtain⟨H,R,M⟩ :=eX hz;have g:∀e,(Instr.checkKey e 10000 N n).run P w= .ok () w:=fun e=>run_checkKey e 9999 d f hk;split at a
      · rename_i i u s;cases a;have c:=iF f hk j s;simp only [Nat.sub_zero]at c;obtain⟨e,T,_,_,B,S,D,_,O⟩ :=c;have q:=aB8 B
        obtain⟨p,A,y⟩ :=aB9 (clock':=b) (ES':=K.modify i fun e=>{e with key:=n}) r hm hE o (by
         rw [oM];exact j.setE hk D i _ (fun U l=>by rw [B]at l;cases l;rfl))
        refine⟨.tuple #[e.val,.int .i64 (aFr Q i)],_,?_,by simp only [VR];exact⟨_,rfl,VRs.cons D (VRs.cons (by simp [VR]) (VRs.nil E))⟩,A,y⟩;simp [Instr.mapEntry,aB C,dG o,g,Instr.findKey,aB d,S,Instr.keyThatStays,q,O,sV f hk,p P,goInt,aNv j i e B]
      · rename_i s;cases a;have c:=iF f hk j s;simp only at c;obtain⟨p,A,y⟩ :=aB9 (clock':=b+1) (ES':=K.push {key:=n,val:=H,born:=b}) r hm hE o (by rw [Array.toList_push];exact j.snoc hk (M E));refine⟨.tuple #[H,.int .i64 b],_,?_,by simp only [VR];exact⟨_,rfl,VRs.cons (M E) (VRs.cons (by simp [VR]) (VRs.nil E))⟩,A,y⟩;simp [Instr.mapEntry,aB C,dG o,g,Instr.findKey,aB d,c,p P,R,goInt]
      ·cases a
   ·cases a
 ·cases a
theorem aCa {v:AV}{cv:Value}(j:VR E v cv){b:Nat}:∀ {h d:List (AV×AV×Nat)} {f:List MapEntry},ERs E h f→xU v b h=some d →
  ∃i,f.findIdx? (fun e=> (e.born:Int) == (b:Int)) =some i∧ERs E d (f.modify i fun e=>{e with val:=cv})
 | [],d,f,he,c=>by simp [xU]at c
 | a :: h,d,f,he,c=>by
  simp only [ERs]at he;obtain⟨u,o,rfl,k,n,g,l⟩ :=he;simp only [xU,aZ]at c;by_cases hb:a.2.2=b
  · simp only [hb,decide_true,cond]at c;cases c;refine⟨0,by simp [List.findIdx?_cons,g,hb],?_⟩;simp only [List.modify_zero_cons,ERs];exact⟨_,o,rfl,k,j,by simp [g,hb],l⟩
  · simp only [hb,decide_false,cond]at c;split at c
    · rename_i r hr;cases c;obtain⟨i,p,m⟩ :=aCa j l hr;refine⟨i+1,?_,?_⟩
      · have: ((u.born:Int) == (b:Int)) =false:=by rw [g];simp;omega
        simp [List.findIdx?_cons,this,p]
      · simp only [List.modify_succ_cons,ERs];exact⟨u,_,rfl,k,n,g,m⟩
    ·cases c
theorem yC (r:Rel E h w.heap)(t:TypeId){x s v:AV}{u cs cv:Value}(a:sJ h x s v=some h')(p:VR E x u)(o:VR E s cs)(D:VR E v cv) :
  ∃w',(Instr.entryStore t u cs cv).run P w= .ok () w'∧Rel E h' w'.heap∧Ext E h w E h' w':=by
 unfold sJ at a;split at a
 · rename_i m k n;split at a
   · rename_i I;split at a
     · rename_i G b hm;split at a
       · rename_i B f;cases a;simp only [VR]at p o;subst o;obtain⟨L,hE,rfl⟩ :=p;obtain⟨H,j,g,q,A⟩ :=r.obj _ _ hm;rw [hE]at j;cases j;obtain⟨i,l,C⟩ :=aCa D A f;have d: ((n.toNat:Nat) :Int) =n:=by omega
         rw [d]at l;obtain⟨y,z,F⟩ :=aB9 (clock':=b) (ES':=g.modify i fun e=>{e with val:=cv}) r hm hE q (by rw [oM];exact C);refine⟨_,?_,z,F⟩;have c:g.findIdx? (fun e=> (e.born:Int) ==n) =some i:=by cases g;simpa using l
         simp [Instr.entryStore,dG q,asInt,asIntOf,c,y P]
       ·cases a
     ·cases a
   ·cases a
 ·cases a
inductive Adds (P:Program) (w:World) (at1:TypeId) (e:TypeId) (sz:Nat) :Value→List Value→Nat→Prop
 | slice (a:Addr) (n c:Nat) (us:List Value) (d:TypeDesc) (hd:P.underlying at1=some d) (hi:∀k,d≠ .int k) (hl:∀w1:World,w1.heap=w.heap→ (loadCells a (n*sz)).run P w1= .ok ⟨us⟩ w1) :
   Adds P w at1 e sz (.slice (some a) n c) us n
 |nil (d:TypeDesc) (hd:P.underlying at1=some d) (hi:∀k,d≠ .int k) :Adds P w at1 e sz (.slice none 0 0) [] 0
 | zeros (l:Int) (n:Nat) (z:Value) (k:IntKind) (inf:TypeInfo) (us:List Value) (hd:P.underlying at1=some (.int k)) (hl:l= (n:Int)) (hn:n<100000) (hi:P.info? e=some inf) (hb:inf.bytes≤1000)
   (hz:∀w,(zeroValue e).run P w= .ok z w) (hus:us= (Builtin.zeroCells z.cells n).toList) (hs:z.cells.size=sz) (h1:1≤sz) :Adds P w at1 e sz (.int .i64 l) us n
theorem wrap_small {n:Nat}(h:n<100000) :IntKind.i64.wrap (n:Int) =n:=by
 simp [IntKind.wrap,IntKind.bits,IntKind.signed];omega
set_option maxRecDepth 100000 in
theorem run_append_room {b:Array TypeId}{ty st r e:TypeId}{sz len cap n:Nat}{base:Option Addr}{cx:Value}{us:List Value}(hA:Adds P w r e sz cx us n)
  (j:b[0]?=some st) (v:b[1]?=some r) (t:P.underlying st=some (.slice e)) (u:aR P e=some sz) (g:len+n≤cap)
  (f:match base with|some a=> (storeCells (a.add (len*sz)) us).run P w= .ok () w'|none=>w'=w) :
  (Builtin.append_ b ty #[.slice base len cap,cx]).run P w= .ok (.slice base (len+n) cap) w':=by
 have y: (#[Value.slice base len cap,cx] :Array Value)[0]?=some (.slice base len cap) :=rfl;have A: (#[Value.slice base len cap,cx] :Array Value)[1]?=some cx:=rfl;unfold Builtin.append_;cases hA with
 | slice a n c us d hd B hl=>
  have:=hl w rfl;simp only [j,v,y,A,Sem.run_bind,aB t,bM u,aB hd,Result.andThen_ok,Sem.run_pure,aAa,if_false,if_true,Builtin.lenOf,Builtin.firstCells,g,Bool.not_false,this];cases base with
  |none=>simp only at f;subst f;simp only [Sem.run_pure]
  |some a=>simp only at f;simp only [Sem.run_bind,f,Result.andThen_ok,Sem.run_pure]
 | nil d hd B=>
  simp only [j,v,y,A,Sem.run_bind,aB t,bM u,aB hd,Result.andThen_ok,Sem.run_pure,aAa,if_false,if_true,Builtin.lenOf,Builtin.firstCells,g,Bool.not_false];cases base with
  |none=>simp only at f;subst f;simp only [Sem.run_pure]
  |some a=>simp only at f;simp only [Sem.run_bind,f,Result.andThen_ok,Sem.run_pure]
 | zeros l n z k i us hd hl F B hb hz p C H=>
  subst hl;have G:=wrap_small F;have s:¬ ((n:Int) <0) :=by omega
  have m:¬ ((n:Int) * (i.bytes:Int) >2 ^ 48) :=by
   have D:n*i.bytes≤100000*1000:=mul_le_mul (by omega) hb;rw [←Int.natCast_mul];generalize n*i.bytes=q at D;omega
  simp only [j,v,y,A,Sem.run_bind,aB t,bM u,aB hd,Result.andThen_ok,Sem.run_pure];simp only [if_true,Sem.run_bind,aAd,Result.andThen_ok];simp only [G,s,if_false];simp only [Sem.run_bind,cD B,Result.andThen_ok];rw [if_neg m];simp only [Sem.run_bind,Sem.run_pure,Result.andThen_ok,xW];rw [if_pos g];simp only [Bool.not_true,aAa,if_false,Sem.run_bind];have o: (if n*sz=0 then pure #[]else do let __do_lift ←zeroValue e;pure (Builtin.zeroCells __do_lift.cells n) :Sem (Array Value)).run P w= .ok ⟨us⟩ w:=by
   by_cases j:n*sz=0
   · have x:n=0:=by
      rcases Nat.mul_eq_zero.1 j with h|h
      ·exact h
      ·omega
     subst x;have:us= [] :=by rw [p];simp [Builtin.zeroCells]
     subst this;simp
   ·simp only [j,if_false,Sem.run_bind,hz,Result.andThen_ok,Sem.run_pure,p]
  simp only [o,Result.andThen_ok];cases base with
  |none=>simp only at f;subst f;simp only [Sem.run_pure]
  |some a=>simp only at f;simp only [Sem.run_bind,f,Result.andThen_ok,Sem.run_pure]
theorem aEv (n:Nat) :∀ (r c:Nat),c≤n→Builtin.growBy n r c≤2*n+1000
 |0,c,h=>by simp [Builtin.growBy];omega
 | r+1,c,h=>by
  simp only [Builtin.growBy];split
  ·omega
  · by_cases a:c+ (c+768) / 4≤n
    ·exact aEv n r _ a
    · cases r with
      |zero=>simp [Builtin.growBy];omega
      |succ r=>simp only [Builtin.growBy];rw [if_pos (by omega)];omega
theorem aKj {need cap:Nat}(h:cap<need) :Builtin.nextslicecap need cap≤2*need+1000:=by
 unfold Builtin.nextslicecap;split
 ·omega
 · split
   ·omega
   ·exact aEv need 4 cap (by omega)
set_option maxRecDepth 100000 in
set_option maxHeartbeats 1000000 in
theorem run_append_grow {f:Array TypeId}{ty st C e:TypeId}{sz len cap n:Nat}{base:Option Addr}{cx:Value}{us os:List Value}(hA:Adds P w C e sz cx us n){z:AV}(hz:zeroOf P e=some z)
  {g:TypeInfo} (b:P.info? e=some g) (hb1:1≤g.bytes) (K:g.bytes≤1000)
  (x:f[0]?=some st) (M:f[1]?=some C) (J:P.underlying st=some (.slice e)) (L:aR P e=some sz) (p:¬len+n≤cap) (hsm:len+n≤3000000)
  (A:∀R:World,R.heap=w.heap→ (Builtin.firstCells sz len (.slice base len cap)).run P R= .ok ⟨os⟩ R) :
  ∃ i s d,len+n≤i∧s.length= (i- (len+n)) *z.cells.length ∧
   (Builtin.append_ f ty #[.slice base len cap,cx]).run P w= .ok (.slice (some ⟨w.heap.size,0,none⟩) (len+n) i) {w with drawn:=d,heap:=w.heap.push (.cells ⟨os++us++s⟩ e)}:=by
 have Q: (#[Value.slice base len cap,cx] :Array Value)[0]?=some (.slice base len cap) :=rfl;have H: (#[Value.slice base len cap,cx] :Array Value)[1]?=some cx:=rfl;obtain⟨Y,T,z2⟩ :=eX hz;have V:Y.cells.size=z.cells.length:=by have:= (z2 ⟨fun _=>none,fun _=>none⟩).cells.length;simpa using this
 have hng:Builtin.nextslicecap (len+n) cap*g.bytes≤2 ^ 48:=by
  have H:=aKj (need:=len+n) (cap:=cap) (by omega);have e2:Builtin.nextslicecap (len+n) cap*g.bytes≤6001000*1000:=mul_le_mul (by omega) K;omega
 have o:¬Builtin.nextslicecap (len+n) cap*g.bytes>2 ^ 48:=by omega
 have F:¬g.bytes=0:=by omega
 have U:¬ (((len+n:Nat) :Int) >IntKind.i64.max) :=by simp [IntKind.max,IntKind.signed,IntKind.bits];omega
 have hq: (Question.appendCap (len+n) cap e).forced=false:=rfl;obtain⟨d,hd⟩ :∃d,d=w.drawn+1:= ⟨_,rfl⟩;obtain⟨nc,G⟩ :∃nc,nc= (Question.appendCap (len+n) cap e).cut (w.tape w.drawn (.appendCap (len+n) cap e)) := ⟨_,rfl⟩;have N:len+n≤nc:=by rw [G];simp only [Question.cut];omega
 have u: (choose (.appendCap (len+n) cap e)).run P w= .ok nc {w with drawn:=d}:=by
  simp only [run_choose,hq,G,hd];rfl
 have v:∀ (us:List Value) (X:Array Value),(⟨os⟩ ++ ⟨us⟩ ++X:Array Value) = ⟨os++us++X.toList⟩ :=fun us X=>by apply Array.ext';simp
 have m:=A {w with drawn:=d} rfl;refine⟨nc,(Builtin.zeroCells Y.cells (nc- (len+n))).toList,d,N,by simp [Builtin.zeroCells,V],?_⟩;unfold Builtin.append_;cases hA with
 | slice a n c us t r I hl=>
  have j: (Builtin.firstCells sz n (Value.slice (some a) n c)).run P {w with drawn:=d}= .ok ⟨us⟩ {w with drawn:=d}:=by simpa [Builtin.firstCells]using hl {w with drawn:=d} rfl
  simp only [x,M,Q,H,Sem.run_bind,aB J,bM L,aB r,Result.andThen_ok,Sem.run_pure,aAa,if_false,Builtin.lenOf];rw [if_neg p];simp only [Sem.run_bind,cD b,Result.andThen_ok];rw [if_neg (fun h=>by rcases h.2 with h|h<;>first|exact F h|cases h)];simp only [Sem.run_bind,cD b,Result.andThen_ok];rw [if_neg o];simp only [Sem.run_bind,u,Result.andThen_ok,cD b,run_askRoom,m,Bool.not_false,if_true,j,T,newRow,run_newObj,Sem.run_pure,v]
 | nil t r I=>
  simp only [x,M,Q,H,Sem.run_bind,aB J,bM L,aB r,Result.andThen_ok,Sem.run_pure,aAa,if_false,Builtin.lenOf];rw [if_neg p];simp only [Sem.run_bind,cD b,Result.andThen_ok];rw [if_neg (fun h=>by rcases h.2 with h|h<;>first|exact F h|cases h)];simp only [Sem.run_bind,cD b,Result.andThen_ok];rw [if_neg o];have j: (Builtin.firstCells sz 0 (Value.slice none 0 0)).run P {w with drawn:=d}= .ok ⟨[]⟩ {w with drawn:=d}:=by simp [Builtin.firstCells]
  simp only [Sem.run_bind,u,Result.andThen_ok,cD b,run_askRoom,m,Bool.not_false,if_true,j,T,newRow,run_newObj,Sem.run_pure,v]
 | zeros l n z' k W us r hl hn I hb S B Z h1'=>
  subst hl;rw [b]at I;cases I;have hw:=wrap_small hn;have D:¬ ((n:Int) <0) :=by omega
  have y:¬ ((n:Int) * (g.bytes:Int) >2 ^ 48) :=by
   have h3:n*g.bytes≤100000*1000:=mul_le_mul (by omega) hb;rw [←Int.natCast_mul];generalize n*g.bytes=q at h3;omega
  have j:∀w,(if n*sz=0 then pure #[]else do let __do_lift ←zeroValue e;pure (Builtin.zeroCells __do_lift.cells n) :Sem (Array Value)).run P w= .ok ⟨us⟩ w:=fun w=>by
   by_cases x:n*sz=0
   · have O:n=0:=by
      rcases Nat.mul_eq_zero.1 x with h|h
      ·exact h
      ·omega
     subst O;have:us= [] :=by rw [B];simp [Builtin.zeroCells]
     subst this;simp
   ·simp only [x,if_false,Sem.run_bind,S,Result.andThen_ok,Sem.run_pure,B]
  simp only [x,M,Q,H,Sem.run_bind,aB J,bM L,aB r,Result.andThen_ok,Sem.run_pure];simp only [if_true,Sem.run_bind,aAd,Result.andThen_ok];simp only [hw,D,if_false];simp only [Sem.run_bind,cD b,Result.andThen_ok];rw [if_neg y];simp only [Sem.run_bind,Sem.run_pure,Result.andThen_ok,xW];rw [if_neg p];simp only [Sem.run_bind,cD b,Result.andThen_ok];rw [if_neg (fun h=>U h.1)];simp only [Sem.run_bind,cD b,Result.andThen_ok];rw [if_neg o];simp only [Sem.run_bind,u,Result.andThen_ok,cD b,run_askRoom,m,Bool.not_true,aAa,if_false,j,T,newRow,run_newObj,Sem.run_pure,v]
theorem aHC (r:Rel E h w.heap){c:Array TypeId}{e:TypeId}{sz n:Nat}{x:AV}{I:Value}{B:List AV}(a:aHr P h c e sz x=some (B,n))(o:VR E x I)
  {j:TypeInfo} (q:P.info? e=some j) (hb:j.bytes≤1000) (N:1≤sz) :
  ∃s p,c[1]?=some s∧Adds P w s e sz I p n∧VRs E B p∧p.length=n*sz:=by
 unfold aHr at a;split at a
 ·cases a
 · rename_i v i;split at a
   · rename_i k l m;split at a
     · rename_i hl;split at a
       · rename_i z hz;cases hc: (beq z.cells.length sz&& !(beq sz 0))with
         |false=>rw [hc]at a;cases a
         | true=>
          rw [hc]at a;simp only [cond]at a;cases a;simp only [aZ,dC,decide_eq_true_eq]at hc;obtain⟨F,U,J⟩ :=eX hz;have D:= (J E).cells.length;simp only [Array.length_toList]at D;simp only [VR]at o;subst o;have t:F.cells.size=sz:=by omega
          refine⟨v,_,i,.zeros l l.toNat F k j _ m (by omega) (by omega) q hb U rfl t N,aAe (J E).cells _ (by omega),by simp [Builtin.zeroCells,t]⟩
       ·cases a
     ·cases a
   ·cases a
   · rename_i d g m;cases a;simp only [VR]at o;subst o;exact⟨v,[],i,.nil d m (fun k e=>by subst e;exact g k rfl),VRs.nil E,by simp⟩
   · rename_i d b K len T C ex g m;cases hc:beq C sz with
     |false=>rw [hc]at a;cases a
     | true =>
      rw [hc]at a;simp only [cond]at a;have:=eP hc;subst this;split at a
      · rename_i p f;cases a;simp only [VR]at o;obtain⟨L,H,u,hE,rfl,X,Z,W,M,Y⟩ :=o;by_cases Q:u=0
        · have A:n=0:=by omega
          subst A;have y:B= [] :=by
           unfold Hp.loadN at f;split at f
           ·simp [getCells]at f;exact f
           ·cases f
          subst y;exact⟨v,[],i,.slice _ _ _ _ d m (fun k e=>by subst e;exact g k rfl) (fun G _=>by simp [loadCells,loadCellsFrom]),VRs.nil E,by simp⟩
        · obtain⟨p,R,O,V⟩ :=sQ r f hE;have:=M Q;subst this;exact⟨v,p,i,.slice _ _ _ _ d m (fun k e=>by subst e;exact g k rfl) (fun G S=>R P G S),O,V⟩
      ·cases a
   ·cases a
theorem Rel.inplace (r:Rel E h w.heap){b off m k:Nat}{t T':T AV}{older:List Nat}(hb:h.look b=some (.cells t k older false)){L:Loc}(hE:E b=some L)
  {R:List AV} {us:List Value} (hv:VRs E R us) (O:cG R=true) (hk:k≤off+m) (hfit:L.sh+off+m+R.length≤L.sz)
  (hT:∀i a,T'.at i=some a→i<m+R.length∧ (if i<m then t.at (off+i) =some a else R[i-m]?=some a)) (e:Nat) (he:e=L.sh+off+m) :
  ∃ w',(∀P,(storeCells ⟨L.blk,e,none⟩ us).run P w= .ok () w') ∧
   Rel (E.put h.nb ⟨L.blk,L.sh+off,L.sz⟩) ((h.set b (.cells t k older true)).new (.cells T' (m+R.length) (b::older) false)) w'.heap ∧
   Ext E h w (E.put h.nb ⟨L.blk,L.sh+off,L.sz⟩) ((h.set b (.cells t k older true)).new (.cells T' (m+R.length) (b::older) false)) w':=by
 subst he;obtain⟨L',g1,C,e,J,g3,g4⟩ :=r.obj _ _ hb;rw [hE]at g1;cases g1;have hf:E h.nb=none:=r.fresh _ (le_refl _);have hbn:b≠h.nb:=fun e=>by rw [e,hf]at hE;cases hE
 have N:E.le (E.put h.nb ⟨L.blk,L.sh+off,L.sz⟩) :=Emb.le_put hf;have hul:=hv.length
 have z:∀ {x ox g},h.look x=some ox→E x=some g→x≠b→Own ox g L.blk→x∈older∧fS ox=true∧g.sh+nOf ox≤L.sh+k:=fun A hEx K d=>by
  rcases r.kin _ _ _ _ _ _ hb A hE hEx ⟨_,rfl,d⟩ (fun e=>K e.symm)with D| ⟨_,D,_⟩
  ·exact D
  ·cases D
 have I:∀ {ox:AObj} {g:Loc},fS ox=true→g.sh+nOf ox≤L.sh+k→Own ox g L.blk→OR E w.heap g ox→OR (E.put h.nb ⟨L.blk,L.sh+off,L.sz⟩) (bP w L.blk (.cells (over C (L.sh+off+m) us) e (0,0))).heap g ox:=by
  intro ox g M hn d O;cases ox with
  |zone w0 r0 Z=>cases M
  | cells tx nx j sx=>
   have d:g.blk=L.blk:=d;obtain⟨C',e',q,k3,k4⟩ :=O;rw [d,J]at q;cases q;refine⟨_,e,by rw [d];exact mJ J,by rw [jW];exact k3,fun i a ha=>?_⟩;obtain⟨q0,v,S,q2⟩ :=k4 i a ha;refine⟨q0,v,?_,q2.mono N⟩;simp only [nOf]at hn;rw [jG _ _ _ _ (by omega),if_neg (by omega)];exact S
  |map es c=>have d:g.blk=L.blk:=d;obtain⟨ES,q,_⟩ :=O;rw [d,J]at q;cases q
  |siter l n p=>have d:g.blk=L.blk:=d;obtain⟨q,_⟩ :=O;rw [d,J]at q;cases q
  |loop st pe fn tm nt ps aS bd df=>have d:g.blk=L.blk:=d;obtain⟨_,_,q,_⟩ :=O;rw [d,J]at q;cases q
  |defd tk=>have d:g.blk=L.blk:=d;simp only [OR]at O;rw [d,J]at O;cases O
  |lst ee xs=>cases M
  |lstv u ee xs=>cases M
  |miter m s l n=>have d:g.blk=L.blk:=d;obtain⟨_,q,_⟩ :=O;rw [d,J]at q;cases q
 have hks:∀x ox,((h.set b (.cells t k older true)).new (.cells T' (m+R.length) (b::older) false)).look x=some ox→x=h.nb∨∃o0,h.look x=some o0:=fun x ox e=>by
  rw [cA,fU]at e;split at e
  ·rename_i A;exact .inl A
  · rw [aU]at e;split at e
    ·rename_i A;subst A;exact .inr ⟨_,hb⟩
    ·exact .inr ⟨ox,e⟩
 refine⟨bP w L.blk (.cells (over C (L.sh+off+m) us) e (0,0)),fun P=>?_,⟨?_,?_,?_,r.imm_put hb hE _,?_,fun x ox e=>by
  rw [lH,fU];rcases hks x ox e with rfl| ⟨o0,e0⟩
  ·omega
  ·have:=r.keys x o0 e0;omega⟩,⟨N,by simp [bP],?_,?_,by simp [lH,fU],rfl,rfl,rfl,fun x A=>Emb.put_ne _ _ (by omega),(fun a _=>qB J rfl rfl a),fun _ _ e _=>.inl e,fun x ox e A=> (hks x ox e).resolve_left (by omega)⟩⟩
 · have:=jH (P:=P) us (w:=w) (b:=L.blk) (k:=L.sh+off+m) (i:=0) J (by omega) (hv.ones O);simpa using this
 · intro x ox f;rw [cA,fU]at f;split at f
   · rename_i A;cases f;subst A;refine .inr ⟨_,Emb.put_same _ _ _,over C (L.sh+off+m) us,e,mJ J,by rw [jW];exact g3,fun i a ha=>?_⟩;obtain⟨q0,S⟩ :=hT i a ha;refine⟨q0,?_⟩;by_cases F:i<m
     · rw [if_pos F]at S;obtain⟨_,v,p1,p2⟩ :=g4 _ _ S;refine⟨v,?_,p2.mono N⟩;rw [jG _ _ _ _ (by omega),if_neg (by simp only;omega)];rw [←p1];congr 1;simp only;omega
     · rw [if_neg F]at S;obtain⟨v,p1,p2⟩ :=hv.get _ _ S;refine⟨v,?_,p2.mono N⟩;rw [jG _ _ _ _ (by omega),if_pos (by simp only;omega)];rw [←p1];congr 1;simp only;omega
   · rename_i A;rw [aU]at f;split at f
     · rename_i Q;cases f;subst Q;refine .inr ⟨L,by rw [Emb.put_ne _ _ A];exact hE,?_⟩;exact I (ox:=.cells t k older true) rfl (by simp [nOf]) rfl ⟨C,e,J,g3,g4⟩
     · rename_i Q;rcases r.obj0 x ox f with⟨u1,u2⟩ | ⟨g,k1,q⟩
       ·exact .inl ⟨u1,by rw [Emb.put_ne _ _ A];exact u2⟩
       refine .inr ⟨g,by rw [Emb.put_ne _ _ A];exact k1,?_⟩;by_cases d:Own ox g L.blk
       ·exact I (z f k1 Q d).2.1 (z f k1 Q d).2.2 d q
       ·exact(q.mono N).heap fun i F=>by simp only [bP];rw [pW (fun e:L.blk=i=>d (by rw [e];exact F))]
 · intro x y ox V g Ly f o j G d K;rw [cA,fU]at f o;have B:∀ {y V Ly},y≠h.nb→ (h.set b (.cells t k older true)).look y=some V→E y=some Ly→Own V Ly L.blk→y∈b::older∧fS V=true∧Ly.sh+nOf V≤L.sh+off+ (m+R.length) :=by
    intro y V Ly X o G d;rw [aU]at o;split at o
    · rename_i W;cases o;subst W;rw [hE]at G;cases G;exact⟨dJ ..,rfl,by simp [nOf];omega⟩
    · rename_i W;obtain⟨S,q2,q3⟩ :=z o G W d;exact⟨dR _ S,q2,by omega⟩
   by_cases H:x=h.nb
   · subst H;have X:y≠h.nb:=fun e=>K e.symm;rw [if_pos rfl]at f;cases f;rw [if_neg X]at o;rw [Emb.put_same]at j;cases j;rw [Emb.put_ne _ _ X]at G;obtain⟨i,Y,U⟩ :=d;obtain rfl:L.blk=i:=Y;exact .inl (B X o G U)
   · rw [if_neg H]at f;rw [Emb.put_ne _ _ H]at j;by_cases D:y=h.nb
     · subst D;rw [if_pos rfl]at o;cases o;rw [Emb.put_same]at G;cases G;obtain⟨i,Y,U⟩ :=d;obtain rfl:L.blk=i:=U;exact .inr (B H f j Y)
     · rw [if_neg D]at o;rw [Emb.put_ne _ _ D]at G;rw [aU]at f o;by_cases h3:x=b
       · subst h3;have X:y≠x:=fun e=>K e.symm;rw [if_pos rfl]at f;cases f;rw [if_neg X]at o;rw [hE]at j;cases j;obtain⟨i,Y,U⟩ :=d;obtain rfl:L.blk=i:=Y;exact .inl (z o G X U)
       · rw [if_neg h3]at f;by_cases h4:y=b
         · subst h4;rw [if_pos rfl]at o;cases o;rw [hE]at G;cases G;obtain⟨i,Y,U⟩ :=d;obtain rfl:L.blk=i:=U;exact .inr (z f j h3 Y)
         · rw [if_neg h4]at o;exact r.kin x y ox V g Ly f o j G d K
 · intro x A;rw [lH,fU]at A;rw [Emb.put_ne _ _ (by omega)];exact r.fresh x (by omega)
 · intro x ox g f j i F;show E.imm i=none;rw [cA,fU]at f;by_cases H:x=h.nb
   · subst H;rw [if_pos rfl]at f;cases f;rw [Emb.put_same]at j;cases j;exact r.apart b _ L hb hE i F
   · rw [if_neg H,aU]at f;rw [Emb.put_ne _ _ H]at j;by_cases D:x=b
     ·subst D;rw [if_pos rfl]at f;cases f;exact r.apart x _ g hb j i F
     ·rw [if_neg D]at f;exact r.apart x ox g f j i F
 · intro i F hno;simp only [bP];rw [pW (hno b _ L hb hE)]
 · intro x ox g f j i F hlt;rw [cA,fU]at f;by_cases H:x=h.nb
   · subst H;rw [if_pos rfl]at f;cases f;rw [Emb.put_same]at j;cases j;exact⟨b,_,L,hb,hE,F⟩
   · rw [if_neg H,aU]at f;rw [Emb.put_ne _ _ H]at j;by_cases D:x=b
     ·subst D;rw [if_pos rfl]at f;cases f;rw [hE]at j;cases j;exact⟨x,_,L,hb,hE,F⟩
     ·rw [if_neg D]at f;exact⟨x,ox,g,f,j,F⟩
theorem Ext.drawn {E':Emb}(x:Ext E h w E' h' w')(d:Nat) :Ext E h w E' h' {w' with drawn:=d}:=
 ⟨x.le,x.size,x.keep,x.own,x.nb,x.os,x.tape,x.output,x.low,x.froz,x.immo,x.keys⟩
theorem aAf {sz len cap:Nat}{a:Addr}{os:List Value}(h:∀w1:World,w1.heap=w.heap→ (loadCells a (len*sz)).run P w1= .ok ⟨os⟩ w1) :
  ∀w1:World,w1.heap=w.heap→ (Builtin.firstCells sz len (.slice (some a) len cap)).run P w1= .ok ⟨os⟩ w1:=fun w1 b=>by
 simp only [Builtin.firstCells];exact h w1 b
theorem old_cells (r:Rel E h w.heap){b off m:Nat}{old:List AV}(hl:h.loadN b off m=some old){L:Loc}(hE:E b=some L){c a:Nat}(g:a≠0→c=L.sh+off)(k:a=0→m=0) :
  ∃e,(∀d:World,d.heap=w.heap→ (loadCells ⟨L.blk,c,none⟩ m).run P d= .ok ⟨e⟩ d) ∧VRs E old e∧e.length=m:=by
 by_cases hc:a=0
 · have hm:=k hc;subst hm;have:old= [] :=by
    unfold Hp.loadN at hl;split at hl
    ·simp [getCells]at hl;exact hl
    ·cases hl
   subst this;exact⟨[],fun d _=>by simp [loadCells,loadCellsFrom],VRs.nil E,rfl⟩
 · have:=g hc;subst this;obtain⟨e,l,i,j⟩ :=sQ r hl hE;exact⟨e,fun d f=>l P d f,i,j⟩
theorem aNw {b off m:Nat}{old:List AV}(hl:h.loadN b off m=some old){t:T AV}{n:Nat}{k:List Nat}{s:Bool}(hb:h.look b=some (.cells t n k s)) :old.length=m∧∀j,j<m→t.at (off+j) =old[j]?:=by
 unfold Hp.loadN at hl;rw [hb]at hl;exact kL hl
theorem Rel.supersede (r:Rel E h w.heap){b k:Nat}{t:T AV}{older:List Nat}(hb:h.look b=some (.cells t k older false)) :
  Rel E (h.set b (.cells t k older true)) w.heap∧Ext E h w E (h.set b (.cells t k older true)) w:=by
 have d:∀ {x a},(h.set b (.cells t k older true)).look x=some a→∃c,h.look x=some c∧ (∀E H L,OR E H L c→OR E H L a) ∧bK a=bK c∧nOf a=nOf c∧ (fS c=true→fS a=true) ∧lM c=lM a∧∀L i,Own a L i→Own c L i:=by
  intro x a e;rw [aU]at e;split at e
  ·rename_i p;cases e;subst p;exact⟨_,hb,fun _ _ _ h=>h,rfl,rfl,fun _=>rfl,rfl,fun _ _ h=>h⟩
  ·exact⟨a,e,fun _ _ _ h=>h,rfl,rfl,fun h=>h,rfl,fun _ _ h=>h⟩
 refine⟨⟨?_,?_,fun x p=>r.fresh x p,r.imm,?_,fun x a e=>by obtain⟨c,g,_⟩ :=d e;exact r.keys x c g⟩,⟨Emb.le.refl E,le_refl _,fun _ _ _=>rfl,?_,le_refl _,rfl,rfl,rfl,fun _ _=>rfl,fun _ _=>rfl,fun _ _ e _=>.inl e,fun x a e _=>by obtain⟨c,g,_⟩ :=d e;exact⟨c,g⟩⟩⟩
 · intro x a e;obtain⟨c,g,K,_,_,_,G,_⟩ :=d e;rcases r.obj0 x c g with⟨Z,W⟩ | ⟨L,S,O⟩
   ·exact .inl ⟨by rw [←G];exact Z,W⟩
   exact .inr ⟨L,S,K _ _ _ O⟩
 · intro x y a oy n D o J m R s A;obtain⟨l,j,_,V,C,X,_,f⟩ :=d o;obtain⟨U,Y,_,N,B,Q,_,M⟩ :=d J;obtain⟨i,I,F⟩ :=s;rcases r.kin x y l U n D j Y m R ⟨i,f _ _ I,M _ _ F⟩ A with⟨q,u,v⟩ | ⟨q,u,v⟩
   ·exact .inl ⟨by rw [V];exact q,Q u,by rw [C,B];exact v⟩
   ·exact .inr ⟨by rw [N];exact q,X u,by rw [C,B];exact v⟩
 · intro x a n o m i z;obtain⟨l,j,_,_,_,_,_,f⟩ :=d o;exact r.apart x l n j m i (f _ _ z)
 · intro x a n o m i z _;obtain⟨l,j,_,_,_,_,_,f⟩ :=d o;exact⟨x,l,n,j,m,f _ _ z⟩
set_option maxHeartbeats 1000000 in
theorem aappend_sound (r : Rel E h w.heap){j:Array TypeId}{ty:TypeId}{s x v:AV}{cs cx:Value}(g:aappend P h j s x=some (v,h'))(hs:VR E s cs)(hx:VR E x cx) :
  ∃cv w' R,(Builtin.append_ j ty #[cs,cx]).run P w= .ok cv w'∧VR R v cv∧Rel R h' w'.heap∧Ext E h w R h' w':=by
 unfold aappend at g;split at g
 ·cases g
 · rename_i st A;split at g
   · rename_i e X;split at g
     · rename_i sz inf z B F hz;split at g
       ·cases g
       · rename_i vs n Z;cases hc: (beq z.cells.length sz&&ble sz 40&&ble inf.bytes 1000&&ble 1 inf.bytes&&ble 1 sz&&cG vs&&ble n 1000000)with
         |false=>rw [hc]at g;cases g
         | true =>
          rw [hc]at g;simp only [cond]at g;simp only [gG,aZ,dC,decide_eq_true_eq]at hc;obtain⟨⟨⟨⟨⟨⟨hzl,hs40⟩,S⟩,hb1⟩,hs1⟩,Q⟩,hn6⟩ :=hc;obtain⟨at1,V,o,hA,y,hul⟩ :=aHC (P:=P) (w:=w) r Z hx F S hs1;split at g
          · -- the nil slice
            simp only [VR]at hs;subst hs;cases D:beq n 0 with
            | true=>
             rw [D]at g;simp only [cond]at g;cases g;have:=eP D;subst this;have U:V= [] :=zq35.1 (by omega);subst U;refine⟨.slice none 0 0,w,E,?_,by simp [VR],r,Ext.refl _ _ _⟩;exact run_append_room (base:=none) (len:=0) (cap:=0) (w':=w) hA A o X B (by omega) rfl
            | false=>
             rw [D]at g;simp only [cond]at g;cases g;have hn0:n≠0:=fun e=>by subst e;cases D
             obtain⟨nc,l,d,k1,k2,k3⟩ :=run_append_grow (ty:=ty) (base:=none) (len:=0) (cap:=0) (os:=[]) hA hz F hb1 S A o X B (by omega) (by omega) (fun w1 _=>by simp [Builtin.firstCells]);simp only [jS,List.nil_append]at k1 k2 k3;obtain⟨M,O⟩ :=sT r y e l;refine⟨_,_,_,k3,nM w h _ n n sz nc false (le_refl _) k1 (fun e=>by cases e) ?_,M,O.drawn d⟩;rw [pU,k2,hul,hzl,←add_mul];exact mul_le_mul_right _ (by omega)
          · rename_i b off len cap esz exact;cases hc: (beq esz sz&&ble len 1000000&&ble cap 1000000)with
            |false=>rw [hc]at g;cases g
            | true =>
             rw [hc]at g;simp only [cond]at g;simp only [gG,aZ,dC,decide_eq_true_eq]at hc;obtain⟨⟨rfl,hlen6⟩,hcap6⟩ :=hc;simp only [VR]at hs;obtain⟨L,q,c,hE,rfl,g1,g2,g3,g4,g5⟩ :=hs;cases hr:ble (len+n) cap with
             | true =>
              rw [hr]at g;simp only [cond]at g;have p:=Nat.le_of_ble_eq_true hr;cases D:beq n 0 with
              | true=>
               rw [D]at g;simp only at g;cases g;have:=eP D;subst this;have U:V= [] :=zq35.1 (by omega);subst U;refine⟨.slice (some ⟨L.blk,q,none⟩) len c,w,E,?_,?_,r,Ext.refl _ _ _⟩
               ·exact run_append_room (base:=some ⟨L.blk,q,none⟩) (len:=len) (cap:=c) (w':=w) hA A o X B (by omega) rfl
               ·simp only [VR];exact⟨L,q,c,hE,rfl,g1,g2,g3,g4,g5⟩
              | false =>
               rw [D]at g;simp only at g;have hn0:n≠0:=fun e=>by subst e;cases D
               split at g
               · rename_i h2 u;cases g;unfold aEp at u;split at u
                 · rename_i t k older hb;cases u;have I:=g4 (by omega);subst I;have hvl:=y.length;have hm: (len+n) *esz≤c*esz:=mul_le_mul_right _ (by omega);rw [add_mul]at hm;obtain⟨w2,M,O,q3⟩ :=r.write (off:=off+len*esz) hb hE y Q (max k (off+len*esz+vs.length)) (Nat.le_max_left _ _) (fun _=>Nat.le_max_right _ _) (by omega);refine⟨.slice (some ⟨L.blk,L.sh+off,none⟩) (len+n) c,w2,E,?_,?_,O,q3⟩
                   · refine run_append_room (base:=some ⟨L.blk,L.sh+off,none⟩) (len:=len) (cap:=c) (w':=w2) hA A o X B (by omega) ?_;simp only [dW];rw [add_assoc];exact M P
                   ·simp only [VR];exact⟨L,L.sh+off,c,hE,rfl,by omega,g2,g3,fun _=>rfl,g5⟩
                 ·cases u
               ·cases g
             | false =>
              rw [hr]at g;simp only [cond]at g;have hnroom:¬len+n≤cap:=fun e=>by rw [Nat.ble_eq_true_of_le e]at hr;cases hr
              have hn0:n≠0:=fun e=>by subst e;omega
              split at g
              ·cases g
              · rename_i old K;have hc0:c=0→len*esz=0:=fun e=>by rw [show len=0 by omega,Nat.zero_mul]
                obtain⟨os,o1,o2,o3⟩ :=old_cells (P:=P) r K hE g4 hc0
                have G:∀ (T':T AV) (N:Nat) (J:List Nat) (Y:Hp),Y.nb=h.nb→Rel E Y w.heap→Ext E h w E Y w→¬len+n≤c →
                  (∀i a,T'.at i=some a→i<N∧ (old++vs)[i]?=some a) →
                  ∃cv w' R,(Builtin.append_ j ty #[.slice (some ⟨L.blk,q,none⟩) len c,cx]).run P w= .ok cv w'∧VR R (.slice h.nb 0 (len+n) (len+n) esz false) cv∧Rel R (Y.new (.cells T' N J false)) w'.heap∧Ext E h w R (Y.new (.cells T' N J false)) w':=by
                 intro T' N J Y hnb r1 x1 hno hT;obtain⟨nc,l,d,k1,k2,k3⟩ :=run_append_grow (ty:=ty) (base:=some ⟨L.blk,q,none⟩) (len:=len) (cap:=c) (os:=os) hA hz F hb1 S A o X B hno (by omega) (aAf o1)
                 obtain⟨M,O⟩ :=r1.new (.cells T' N J false) (.cells ⟨os++V++l⟩ e) (os++V++l).length (fun R H' hle _ hH=> ⟨⟨os++V++l⟩,e,hH,rfl,fun i a f=>by
                  obtain⟨p1,p2⟩ :=hT i a f;obtain⟨v,p3,p4⟩ := (o2.append y).get i a p2;refine⟨p1,v,?_,p4.mono hle⟩;have hlt:= (zq0.1 p3).1;simp only [jS];rw [show(⟨os++V++l⟩ :Array Value) = (os++V++l).toArray from rfl,List.getElem?_toArray,wL hlt];exact p3⟩)
                 rw [hnb]at M O;refine⟨_,_,_,k3,?_,M,x1.trans (O.drawn d)⟩;refine nM w h _ (len+n) (len+n) esz nc false (le_refl _) k1 (fun e=>by cases e) ?_;rw [pU,pU,k2,hul,hzl,o3,←add_mul,←add_mul];exact mul_le_mul_right _ (by omega)
                cases exact with
                | true=>
                 simp only at g;cases g;have hce:=g3 rfl
                 exact G _ _ _ h rfl r (Ext.refl _ _ _) (by omega) (fun i a f=>by
                  rw [aX]at f;split at f
                  ·rename_i W;exact⟨W,f⟩
                  ·cases f)
                | false =>
                 simp only at g;split at g
                 · rename_i t k older hb;cases hk:ble k (off+len*esz)with
                   |false=>rw [hk]at g;cases g
                   | true =>
                    rw [hk]at g;simp only at g;cases g;have hk':=Nat.le_of_ble_eq_true hk;obtain⟨ol,og⟩ :=aNw K hb;have hvl:=y.length;obtain⟨Lb,e1,C,ee,e2,e3,e4⟩ :=r.obj _ _ hb;rw [hE]at e1;cases e1;have hT :∀i a,(bif beq off 0 then putCells t (len*esz) vs else putCells .leaf 0 (old++vs)).at i=some a→i<len*esz+vs.length∧ (if i<len*esz then t.at (off+i) =some a else vs[i-len*esz]?=some a) :=by
                     intro i a f;rw [aZ]at f;by_cases D:off=0
                     · subst D;simp only [decide_true,cond]at f;rw [sO]at f;split at f
                       ·rename_i W;exact⟨W.2,by rw [if_neg (by omega)];exact f⟩
                       · rename_i W;have:= (e4 i a f).1;exact⟨by omega,by rw [if_pos (by omega)];simpa using f⟩
                     · simp only [D,decide_false,cond]at f;rw [aX]at f;split at f
                       · rename_i W;rw [pU,ol]at W;refine⟨W,?_⟩;split
                         · rename_i H;rw [wL (by omega)]at f;rw [og i H];exact f
                         · rename_i H;rw [aDR (by omega),ol]at f;exact f
                       ·cases f
                    have hT2:∀i a,(bif beq off 0 then putCells t (len*esz) vs else putCells .leaf 0 (old++vs)).at i=some a→i<old.length+vs.length∧ (old++vs)[i]?=some a:=by
                     intro i a f;obtain⟨p1,p2⟩ :=hT i a f;refine⟨by omega,?_⟩;split at p2
                     · rename_i H;rw [wL (by omega),←og i H];exact p2
                     · rename_i H;rw [aDR (by omega),ol];exact p2
                    by_cases p:len+n≤c
                    · have I:=g4 (by omega);subst I;have hm: (len+n) *esz≤c*esz:=mul_le_mul_right _ (by omega);rw [add_mul]at hm;obtain⟨w2,M,O,q3⟩ :=r.inplace (off:=off) (m:=len*esz) hb hE y Q hk' (by omega) hT (L.sh+off+len*esz) rfl;refine⟨.slice (some ⟨L.blk,L.sh+off,none⟩) (len+n) c,w2,E.put h.nb ⟨L.blk,L.sh+off,L.sz⟩,?_,?_,?_,?_⟩
                      · refine run_append_room (base:=some ⟨L.blk,L.sh+off,none⟩) (len:=len) (cap:=c) (w':=w2) hA A o X B p ?_;simp only [dW];exact M P
                      · simp only [VR];exact⟨_,L.sh+off,c,Emb.put_same _ _ _,rfl,le_refl _,p,(fun e=>by cases e),fun _=>rfl,g5⟩
                      ·rw [ol];exact O
                      ·rw [ol];exact q3
                    · obtain⟨r1,x1⟩ :=r.supersede hb;exact G _ _ _ _ rfl r1 x1 p hT2
                 ·cases g
          ·cases g
     ·cases g
   ·cases g
end
section
variable {P :Program} {E:Emb} {h h':Hp} {w w':World} {tm:T AV} {ρ:Operand→Value}
theorem cB {x:Operand}{k:AV→Option AOut}{o:AOut}(h:sF tm x k=some o) :∃a,bG tm x=some a∧k a=some o:=by
 unfold sF at h;split at h
 ·rename_i v b;exact⟨v,b,h⟩
 ·cases h
theorem eK {x y:Operand}{k:AV→AV→Option AOut}{o:AOut}(h:xR tm x y k=some o) :∃a b,bG tm x=some a∧bG tm y=some b∧k a b=some o:=by
 unfold xR at h;split at h
 · rename_i v d;split at h
   ·rename_i u c;exact⟨v,u,d,c,h⟩
   ·cases h
 ·cases h
theorem cN {v:Option AV}{o:AOut}(b:val v h=some o) :∃a,v=some a∧o= .val a h:=by
 unfold val at b;split at b
 ·cases b;exact⟨_,rfl,rfl⟩
 ·cases b
theorem qD {v:Option Hp}{o:AOut}(a:xX v=some o) :∃h',v=some h'∧o= .val .undef h':=by
 unfold xX at a;split at a
 ·cases a;exact⟨_,rfl,rfl⟩
 ·cases a
theorem aEw {v:Option (AV×Hp)}{o:AOut}(b:aB0 v=some o) :∃a h',v=some (a,h') ∧o= .val a h':=by
 unfold aB0 at b;split at b
 ·cases b;exact⟨_,_,rfl,rfl⟩
 ·cases b
theorem lQ {f:Nat}{a:Array Value}(hc:dA P f=true) : (callFunc f a).run P w= .ok (.enter f a) w:=by
 unfold dA at hc;split at hc
 · rename_i fn b;simp only [dC,Bool.not_eq_true']at hc;have c:fn.body.isNone=false:=by cases hb:fn.body<;>simp_all
   simp only [callFunc,Sem.run_bind,run_program,Result.andThen_ok,b,hc.2,aAa,if_false,c,Sem.run_pure]
 ·cases hc
theorem aKk {t:TypeId}{b:String}{f:Nat}{v:Value}(hm:mF P t b=some f)(k:Nat) : (method (k+1) t v b).run P w= .ok (f,v) w:=by
 unfold mF at hm;split at hm
 ·cases hm
 · rename_i i n;split at hm
   ·cases hm
   · rename_i m a;split at hm
     · rename_i l g c;cases hm;simp [method,cD n,a,l,follow,g,receiverAt,aB c,Place.get]
     ·cases hm
     · rename_i d j l g c;cases hm;have:∀e,d≠ .pointer e:=fun e h=>by subst h;exact j e rfl
       simp only [method,Sem.run_bind,cD n,Result.andThen_ok,a,l,follow,Sem.run_pure,g,receiverAt,aB c];cases d<;>first|exact absurd rfl (this _) |simp [Place.get]
     ·cases hm
theorem yD {t:TypeId}{b:String}{f:Nat}{v:Value}(hm:mF P t b=some f)(k:Nat) : (nilAhead (k+1) t v b).run P w= .ok (some false) w:=by
 unfold mF at hm;split at hm
 ·cases hm
 · rename_i i n;split at hm
   ·cases hm
   · rename_i m a;split at hm
     · rename_i j c l;cases hm;simp [nilAhead,cD n,a,j,followBlind,c]
     ·cases hm
     · rename_i d g j c l;cases hm;have:∀e,d≠ .pointer e:=fun e h=>by subst h;exact g e rfl
       simp only [nilAhead,Sem.run_bind,cD n,Result.andThen_ok,a,j,followBlind,Sem.run_pure,c,aB l];cases d<;>first|exact absurd rfl (this _) |simp
     ·cases hm
theorem aEx (P:Program) :∃k,P.types.size+Made.depth=k+1:=by
 have:0<Made.depth:=by decide
 exact⟨P.types.size+ (Made.depth-1),by omega⟩
theorem aCb {t:TypeId}{a:String}{f:Nat}{v:Value}{b:Array Value}(hm:mF P t a=some f)(hc:dA P f=true) :
  (callMethod (.iface t v) a b).run P w= .ok (.enter f (#[v] ++b)) w:=by
 obtain⟨k,hk⟩ :=aEx P;simp only [callMethod,Sem.run_bind,run_program,Result.andThen_ok,hk,aKk hm,lQ hc]
theorem sW {f:Nat}{a:List AV}{o:AOut}(h:sK P f a=some o) :dA P f=true∧o= .call (.enter f a) :=by
 unfold sK at h;cases hc:dA P f with
 |false=>rw [hc]at h;cases h
 |true=>rw [hc]at h;simp only [cond]at h;cases h;exact⟨rfl,rfl⟩
theorem vU {g:AV}{e:Value}{a:String}{b:List AV}{cargs:List Value}{o:AOut}(c:aBq P g a b=some o)(hr:VR E g e)(i:VRs E b cargs) :
  ∃f h d,o= .call (.enter f h) ∧VRs E h d∧ (callMethod e a ⟨cargs⟩).run P w= .ok (.enter f ⟨d⟩) w:=by
 unfold aBq at c;split at c
 · rename_i t v;split at c
   · rename_i f hm;obtain⟨hc,rfl⟩ :=sW c;simp only [VR]at hr;obtain⟨u,rfl,j⟩ :=hr;refine⟨f,_,u::cargs,rfl,VRs.cons j i,?_⟩;rw [aCb hm hc];simp
   ·cases c
 ·cases c
theorem yE (r:Rel E h w.heap){A:AV}{k:Value}{args:List AV}{cargs:List Value}{o:AOut}(c:pX P A args=some o)(g:VR E A k)(p:VRs E args cargs) :
  ∃d,(Deferred.ofValue k ⟨cargs⟩).run P w= .ok d w∧Out P E h w ((invoke d.target d.args).run P w) o:=by
 unfold pX at c;split at c
 · rename_i f first D
   obtain⟨hc,rfl⟩ :=sW c;simp only [VR]at g;obtain⟨a,b,rfl,F,C⟩ :=g;refine⟨{target:=.fn (.func f) ⟨b⟩,args:= ⟨a⟩ ++ ⟨cargs⟩},by simp [Deferred.ofValue],?_⟩;refine⟨a++cargs++b,?_,(F.append p).append C⟩;simp only [invoke,lQ hc];congr 2;apply Array.ext';simp
 · rename_i l;cases c;simp only [VR]at g;obtain⟨L,H,rfl⟩ :=g;refine⟨{target:=.fn (.yield L.blk) #[],args:= #[] ++ ⟨cargs⟩},by simp [Deferred.ofValue],?_⟩;refine⟨cargs,L,H,p,?_⟩;simp only [invoke];congr 2;apply Array.ext';simp
 · rename_i n i;simp only [VR]at g;obtain⟨u,rfl,j⟩ :=g;obtain⟨f,J,y,rfl,I,G⟩ :=vU (w:=w) c j p;refine⟨{target:=.fn (.method n) #[],args:= #[u] ++ ⟨cargs⟩},by simp [Deferred.ofValue],?_⟩;refine⟨y,?_,I⟩;have x: (#[u] ++ ⟨cargs⟩ :Array Value)[0]?=some u:=by simp
   have v: (#[u] ++ ⟨cargs⟩ :Array Value).extract 1 (#[u] ++ ⟨cargs⟩ :Array Value).size= ⟨cargs⟩ :=by
    apply Array.ext';simp
   simp only [invoke,x,v,G]
 · rename_i t f B i
   have m:∀ {o},sK P f (i::args) =some o→ (∀u:Value,(receiverVia t u #[] B).run P w= .ok u w) →
     ∃d,(Deferred.ofValue k ⟨cargs⟩).run P w= .ok d w∧Out P E h w ((invoke d.target d.args).run P w) o:=by
    intro o c q;obtain⟨hc,rfl⟩ :=sW c;simp only [VR]at g;obtain⟨u,rfl,j⟩ :=g;refine⟨{target:=.fn (.via t #[] f B) #[],args:= #[u] ++ ⟨cargs⟩},by simp [Deferred.ofValue],?_⟩;refine⟨u::cargs,?_,VRs.cons j p⟩;have x: (#[u] ++ ⟨cargs⟩ :Array Value)[0]?=some u:=by simp
    have v: (#[u] ++ ⟨cargs⟩ :Array Value).extract 1 (#[u] ++ ⟨cargs⟩ :Array Value).size= ⟨cargs⟩ :=by
     apply Array.ext';simp
    simp only [invoke,x,v,Sem.run_bind,q u,Result.andThen_ok,lQ hc];refine congrArg (fun z=>Result.ok (Next.enter f z) w) ?_;apply Array.ext';simp
   split at c
   · rename_i e j;exact m c (fun u=>by simp [receiverVia,follow,receiverAt,aB j,Place.get])
   ·cases c
   · rename_i d s j
     exact m c (fun u=>by
      have:∀e,d≠ .pointer e:=fun e h=>by subst h;exact s e rfl
      simp only [receiverVia,Array.toList_empty,follow,Sem.run_bind,Sem.run_pure,Result.andThen_ok,receiverAt,aB j];cases d<;>first|exact absurd rfl (this _) |simp [Place.get])
   ·cases c
 ·cases c
theorem qE {s:TypeId}{i o:Nat}(a:aB1 P s i=some o)(b k:Nat) : (Instr.fieldAt s (.pointer (some ⟨b,k,none⟩)) i).run P w= .ok (.pointer (some ⟨b,k+o,none⟩)) w:=by
 unfold aB1 at a;split at a
 · rename_i fs c;split at a
   · rename_i f d;split at a
     · rename_i n e;cases a;simp [Instr.fieldAt,aB c,d,Instr.sureAddr,fieldPlace,bM e,dW]
     ·cases a
   ·cases a
 ·cases a
theorem iR {i:AV}{b:Value}{len k:Nat}(hb:fD i len=some k)(a:VR E i b) :∃kk,b= .int kk (k:Int) ∧k<len:=by
 unfold fD at hb;split at hb
 · split at hb
   · rename_i c;cases hb;simp only [VR]at a;exact⟨_,by rw [a];congr 1;omega,by omega⟩
   ·cases hb
 ·cases hb
theorem aCc {t:TypeId}{d:TypeDesc}{s off:Nat}{c:List AV}{cs:Array Value}{v:AV}(f:P.underlying t=some d)(j:aR P t=some s)(g:VRs E c cs.toList)
  (a: (bif isAggD d then some (AV.agg ((c.drop off).take s))else c[off]?) =some v) :∃cv,(part t cs off).run P w= .ok cv w∧VR E v cv:=by
 cases hd:isAggD d with
 | true=>
  rw [hd]at a;simp only [cond]at a;cases a;refine⟨.agg (cs.extract off (off+s)),by simp [part,nL f,hd,bM j],?_⟩;simp only [VR];refine⟨(cs.extract off (off+s)).toList,rfl,?_⟩;have:= (g.drop off).take s;have e: (cs.extract off (off+s)).toList= (cs.toList.drop off).take s:=by simp
  rw [e];exact this
 | false=>
  rw [hd]at a;simp only [cond]at a;obtain⟨cv,i,h⟩ :=g.get _ _ a;have b:cs[off]?=some cv:=by simpa using i
  exact⟨cv,by simp [part,nL f,hd,b],h⟩
theorem yF {p b:TypeId}{ok:Bool}{a v:AV}{n:Value}(c:sL P b ok a=some v)(i:VR E a n) :
  ∃cv,(Instr.typeAssert n p b ok).run P w= .ok cv w∧VR E v cv:=by
 unfold sL at c;split at c
 ·cases c
 ·cases c
 · rename_i d k h;have hd:∀ms,d≠ .interface ms:=fun ms e=>k ms (by rw [e]);split at c
   · cases ok with
     |false=>cases c
     | true=>
      simp only [cond]at c;split at c
      · rename_i z hz;cases c;obtain⟨l,j,m⟩ :=eX hz;simp only [VR]at i;subst i;refine⟨.tuple #[l,.bool false],?_,by simp only [VR];exact⟨_,rfl,VRs.cons (m E) (VRs.cons (by simp [VR]) (VRs.nil E))⟩⟩;cases d<;>first|exact absurd rfl (hd _) |simp [Instr.typeAssert,aB h,j]
      ·cases c
   · rename_i t u;simp only [VR]at i;obtain⟨o,rfl,f⟩ :=i;rw [aZ]at c;by_cases g:t=b
     · simp only [g,decide_true,cond]at c;cases ok with
       | true=>
        cases c;refine⟨.tuple #[o,.bool true],?_,by simp only [VR];exact⟨_,rfl,VRs.cons f (VRs.cons (by simp [VR]) (VRs.nil E))⟩⟩;cases d<;>first|exact absurd rfl (hd _) |simp [Instr.typeAssert,aB h,g]
       | false=>
        cases c;refine⟨o,?_,f⟩;cases d<;>first|exact absurd rfl (hd _) |simp [Instr.typeAssert,aB h,g]
     · simp only [g,decide_false,cond]at c;cases ok with
       |false=>cases c
       | true=>
        simp only at c;split at c
        · rename_i z hz;cases c;obtain⟨l,j,m⟩ :=eX hz;refine⟨.tuple #[l,.bool false],?_,by simp only [VR];exact⟨_,rfl,VRs.cons (m E) (VRs.cons (by simp [VR]) (VRs.nil E))⟩⟩;cases d<;>first|exact absurd rfl (hd _) |simp [Instr.typeAssert,aB h,g,j]
        ·cases c
   ·cases c
theorem aKl (r:Rel E h w.heap){a:Array TypeId}{ty t:TypeId}{x v:AV}{i:Value}(f:a[0]?=some t)(d:aT4 P h t x=some v)(e:VR E x i) :
  ∃cv,(Builtin.len_ a ty #[i]).run P w= .ok cv w∧VR E v cv:=by
 unfold aT4 at d;split at d
 · rename_i b;cases d;simp only [VR]at e;subst e;exact⟨_,by simp [Builtin.len_,f,aB b,jU];rfl,by simp [VR,goInt]⟩
 · rename_i b;cases d;exact⟨_,by simp [Builtin.len_,f,aB b];rfl,by simp [VR,goInt]⟩
 · rename_i b;cases d;simp only [VR]at e;obtain⟨L,j,l,_,rfl,_⟩ :=e;exact⟨_,by simp [Builtin.len_,f,aB b];rfl,by simp [VR,goInt]⟩
 · rename_i b;cases d;simp only [VR]at e;subst e;exact⟨_,by simp [Builtin.len_,f,aB b];rfl,by simp [VR,goInt]⟩
 · rename_i b;cases d;simp only [VR]at e;subst e;exact⟨_,by simp [Builtin.len_,f,aB b];rfl,by simp [VR,goInt]⟩
 · rename_i b;split at d
   · rename_i m p c hm;cases d;simp only [VR]at e;obtain⟨L,hE,rfl⟩ :=e;obtain⟨q,g,o,n,k⟩ :=r.obj _ _ hm;rw [hE]at g;cases g;have:=k.length;refine⟨.int .i64 o.size,by simp [Builtin.len_,f,aB b,dG n,goInt],?_⟩;simp only [VR,Array.length_toList]at this ⊢;rw [this]
   ·cases d
 ·cases d
theorem aKm {a:Array TypeId}{ty t:TypeId}{x v:AV}{e:Value}(f:a[0]?=some t)(b:aV7 P t x=some v)(c:VR E x e) :
  ∃cv,(Builtin.cap_ a ty #[e]).run P w= .ok cv w∧VR E v cv:=by
 unfold aV7 at b;split at b
 · rename_i d;cases b;simp only [VR]at c;obtain⟨L,g,h,_,rfl,_,_,i,_⟩ :=c;exact⟨_,by simp [Builtin.cap_,f,aB d];rfl,by simp [VR,goInt,i]⟩
 · rename_i d;cases b;simp only [VR]at c;subst c;exact⟨_,by simp [Builtin.cap_,f,aB d];rfl,by simp [VR,goInt]⟩
 ·cases b
theorem aCd (r:Rel E h w.heap){b:Builtin}{c:Array TypeId}{ty:TypeId}{consts:Array Bool}{j:List AV}{cargs:List Value}{o:AOut}(d:eW P h b c j=some o)(l:VRs E j cargs) :
  Out P E h w ((builtin b c ty consts ⟨cargs⟩).run P w) o∧ ((b= .len∨b= .cap∨b= .max∨b= .min) →aNt P E h w ((builtin b c ty consts ⟨cargs⟩).run P w) o) :=by
 unfold eW at d;split at d
 · rename_i x;obtain⟨z,m,rfl,f,g⟩ :=l.cons_inv;rw [g.nil_inv];split at d
   · rename_i t B;split at d
     · rename_i v n;cases d;obtain⟨cv,y,p⟩ :=aKl (ty:=ty) r B n f;exact aN r y p
     ·cases d
   ·cases d
 · rename_i x;obtain⟨z,m,rfl,f,g⟩ :=l.cons_inv;rw [g.nil_inv];split at d
   · rename_i t B;split at d
     · rename_i v n;cases d;obtain⟨cv,y,p⟩ :=aKm (ty:=ty) (w:=w) B n f;exact aN r y p
     ·cases d
   ·cases d
 · rename_i s x;obtain⟨A,m,rfl,i,g⟩ :=l.cons_inv;obtain⟨z,q,rfl,f,e⟩ :=g.cons_inv;rw [e.nil_inv];split at d
   · rename_i v J n;cases d;obtain⟨cv,I,H,y,p,D,G⟩ :=aappend_sound (ty:=ty) r n i f;exact nq (by simp) (hY y p D G)
   ·cases d
 · rename_i k a F b;cases d;obtain⟨A,m,rfl,i,g⟩ :=l.cons_inv;obtain⟨z,q,rfl,f,e⟩ :=g.cons_inv;rw [e.nil_inv];simp only [VR]at i f;subst i f;exact aN r (cv:=.int k (if b>a then b else a)) (by simp [Builtin.max_,Builtin.max2]) (by simp [VR])
 · rename_i k a F b;cases d;obtain⟨A,m,rfl,i,g⟩ :=l.cons_inv;obtain⟨z,q,rfl,f,e⟩ :=g.cons_inv;rw [e.nil_inv];simp only [VR]at i f;subst i f;exact aN r (cv:=.int k (if b<a then b else a)) (by simp [Builtin.min_,Builtin.min2]) (by simp [VR])
 · rename_i t v;cases d;obtain⟨A,m,rfl,i,g⟩ :=l.cons_inv;rw [g.nil_inv];simp only [VR]at i;obtain⟨u,rfl,C⟩ :=i;exact nq (by simp) ⟨.iface t u,by simp [builtin,Instr.panic],by simp only [VR];exact⟨u,rfl,C⟩⟩
 · cases d;rw [l.nil_inv];exact nq (by simp) (by simp [Out,builtin])
 ·cases d
theorem iT {S:Operand→Prop}(hρ:Reads E tm ρ S){x:Option Operand}{a:Option AV}(hx:∀y,x=some y→S y)(h0:mE tm x=some a) :OVR E a (x.map ρ) :=by
 unfold mE at h0;split at h0
 ·cases h0;trivial
 · split at h0
   ·rename_i v hv;cases h0;exact hρ _ (hx _ rfl) _ hv
   ·cases h0
theorem aHD (r:Rel E h w.heap){c:Call}(hρ:Reads E tm ρ (· ∈c.operands)){ty:TypeId}{o:AOut}(h0:pA P h tm c=some o) :
  Out P E h w ((do let d ←resolve ρ c ty;invoke d.target d.args:Sem Next).run P w) o∧ ((∃b,c.callee= .builtin b∧ (b= .len∨b= .cap∨b= .max∨b= .min)) →aNt P E h w ((do let d ←resolve ρ c ty;invoke d.target d.args:Sem Next).run P w) o) :=by
 unfold pA at h0;split at h0
 ·cases h0
 · rename_i args hargs;have ha:=hρ.list (fun x hx=>by simp only [Call.operands,Array.mem_append];exact .inr (by simpa using hx)) hargs;have hm:c.args.map ρ= ⟨c.args.toList.map ρ⟩ :=by apply Array.ext';simp
   split at h0
   · rename_i f hf;split at h0
     · rename_i fv hfv;refine nq (fun⟨b,hb,_⟩ =>by rw [hf]at hb;cases hb) ?_;obtain⟨d,k1,k2⟩ :=yE r h0 (hρ _ (by simp [Call.operands,hf]) _ hfv) ha;simp only [resolve,hf,hm,Sem.run_bind,k1,Result.andThen_ok];exact k2
     ·cases h0
   · rename_i rc name hf;split at h0
     · rename_i rv hrv;refine nq (fun⟨b,hb,_⟩ =>by rw [hf]at hb;cases hb) ?_;obtain⟨f,aS,cas,rfl,k1,k2⟩ :=vU (w:=w) h0 (hρ _ (by simp [Call.operands,hf]) _ hrv) ha;refine⟨cas,?_,k1⟩;have e0: (#[ρ rc] ++ ⟨c.args.toList.map ρ⟩ :Array Value)[0]?=some (ρ rc) :=by simp
       have e1: (#[ρ rc] ++ ⟨c.args.toList.map ρ⟩ :Array Value).extract 1 (#[ρ rc] ++ ⟨c.args.toList.map ρ⟩ :Array Value).size= ⟨c.args.toList.map ρ⟩ :=by
        apply Array.ext';simp [aBg]
       simp only [resolve,hf,hm,Sem.run_bind,Sem.run_pure,Result.andThen_ok,invoke,e0,e1,k2]
     ·cases h0
   · rename_i b hf;simp only [resolve,hf,hm,Sem.run_bind,Sem.run_pure,Result.andThen_ok,invoke];have:=aCd (ty:=ty) (consts:=c.args.map fun| .const _=>true|_=>false) r h0 ha;exact⟨this.1,fun⟨b',hb,hq⟩ =>this.2 (by cases hb;exact hq)⟩
theorem vV (x:Nat) :∀ (l:List Nat),xY x l=l.contains x
 | [] =>rfl
 | y::l=>by
  rw [xY,List.contains_cons,vV x l];congr 1;rw [Bool.eq_iff_iff,beq_eq,beq_iff_eq];exact eq_comm
theorem ERs.filter {E:Emb}(p:Nat→Bool) :∀ {aS:List (AV×AV×Nat)} {us:List MapEntry},ERs E aS us→ERs E (aS.filter fun e=>p e.2.2) (us.filter fun u=>p u.born)
 | [],_,r=>by simp only [ERs]at r;subst r;simp [ERs]
 | a::aS,_,r=>by
  simp only [ERs]at r;obtain⟨u,us',rfl,h2,h3,h4,h5⟩ :=r;have ih:=ERs.filter p h5;simp only [List.filter_cons,h4];split
  ·simp only [ERs];exact⟨u,_,rfl,h2,h3,h4,ih⟩
  ·exact ih
theorem ERs.append {E:Emb}:∀ {aS bs:List (AV×AV×Nat)} {us vs:List MapEntry},ERs E aS us→ERs E bs vs→ERs E (aS++bs) (us++vs)
 | [],_,_,_,r,k=>by simp only [ERs]at r;subst r;exact k
 | a::aS,_,_,_,r,k=>by
  simp only [ERs]at r;obtain⟨u,us',rfl,h2,h3,h4,h5⟩ :=r;simp only [aDS,ERs];exact⟨u,_,rfl,h2,h3,h4,h5.append k⟩
theorem ERs.len {E:Emb}:∀ {aS:List (AV×AV×Nat)} {us:List MapEntry},ERs E aS us→aS.length=us.length
 | [],_,r=>by simp only [ERs]at r;subst r;rfl
 | a::aS,_,r=>by
  simp only [ERs]at r;obtain⟨u,us',rfl,h2,h3,h4,h5⟩ :=r;simp [h5.len]
theorem ERs.get {E:Emb}:∀ {aS:List (AV×AV×Nat)} {us:List MapEntry},ERs E aS us→∀ (i:Nat) (u:MapEntry),us[i]?=some u→∃a,aS[i]?=some a∧VR E a.1 u.key∧VR E a.2.1 u.val∧u.born=a.2.2
 | [],_,r,i,u,e=>by simp only [ERs]at r;subst r;simp at e
 | a::aS,_,r,i,u,e=>by
  simp only [ERs]at r;obtain⟨u',us',rfl,h2,h3,h4,h5⟩ :=r;cases i with
  |zero=>simp at e;subst e;exact⟨a,rfl,h2,h3,h4⟩
  |succ i=>simp at e;obtain⟨b,g1,g2⟩ :=h5.get i u e;exact⟨b,by simpa using g1,g2⟩
theorem ERs.all {E:Emb}(p:Nat→Bool) :∀ {aS:List (AV×AV×Nat)} {us:List MapEntry},ERs E aS us→ (aS.all fun e=>p e.2.2) =us.all fun u=>p u.born
 | [],_,r=>by simp only [ERs]at r;subst r;rfl
 | a::aS,_,r=>by
  simp only [ERs]at r;obtain⟨u,us',rfl,h2,h3,h4,h5⟩ :=r;simp only [List.all_cons,h4,ERs.all p h5]
theorem qF {r:Nat}{m:Option Nat}{s:Nat}{l:Array Nat}{n:Nat}(hr:w.heap[r]?=some (.mapIter m s l n)) : (getObj r).run P w= .ok (.mapIter m s l n) w:=by
 simp [getObj,Sem.run,hr]
theorem aFH (n:Nat)(hn:0<n) :∃c d,c<n∧ (choose (.mapNext n)).run P w= .ok c {w with drawn:=d}:=by
 by_cases h1:n≤1
 · refine⟨0,w.drawn,hn,?_⟩;have hq: (Question.mapNext n).forced=true:=by simp [Question.forced,h1]
   simp only [run_choose,hq,if_true]
 · refine⟨(Question.mapNext n).cut (w.tape w.drawn (.mapNext n)),w.drawn+1,?_,?_⟩
   · simp only [Question.cut];exact Nat.mod_lt _ hn
   · have hq: (Question.mapNext n).forced=false:=by simp [Question.forced];omega
     simp only [run_choose,hq];rfl
theorem Ext.drew {E:Emb}{h:Hp}{w:World}(d:Nat) :Ext E h w E h {w with drawn:=d}:=
 ⟨Emb.le.refl E,le_refl _,fun _ _ _=>rfl,fun b o L h1 h2 i hi _=> ⟨b,o,L,h1,h2,hi⟩,le_refl _,rfl,rfl,rfl,fun _ _=>rfl,fun _ _=>rfl,fun _ _ e _=>.inl e,fun _ o e _=> ⟨o,e⟩⟩
theorem aFI {es:List (AV×AV×Nat)}{ES:Array MapEntry}(r:ERs E es ES.toList)(since:Nat)(seen:List Nat) :
  let left:=ES.filter fun e=> !(⟨seen⟩ :Array Nat).contains e.born
  let cs:= (if(left.filter (·.born<since)).isEmpty then #[none]else #[]) ++ ((left.filter (·.born<since)) ++ (left.filter (·.born≥since))).map some
  0<cs.size∧∀c,c<cs.size→∃x,x∈aFt es since seen∧ ((x=none∧cs[c]?=some none) ∨∃a u,x=some a∧cs[c]?=some (some u) ∧VR E a.1 u.key∧VR E a.2.1 u.val∧u.born=a.2.2) :=by
 intro left cs;have hl:ERs E (es.filter fun e=> !(xY e.2.2 seen)) left.toList:=by
  have:=r.filter (fun n=> !(xY n seen));simpa [left,vV]using this
 have ho:ERs E ((es.filter fun e=> !(xY e.2.2 seen)).filter fun e=>blt e.2.2 since) (left.filter (·.born<since)).toList:=by
  have:=hl.filter (fun n=>blt n since);simpa [cF]using this
 have hn:ERs E ((es.filter fun e=> !(xY e.2.2 seen)).filter fun e=> !(blt e.2.2 since)) (left.filter (·.born≥since)).toList:=by
  have:=hl.filter (fun n=> !(blt n since));have e1: (left.filter (·.born≥since)).toList=left.toList.filter (fun u=> !(blt u.born since)) :=by
   simp only [Array.toList_filter];congr 1
   funext u
   simp only [cF,ge_iff_le];by_cases g:since≤u.born
   · have:¬u.born<since:=by omega
     simp [g,this]
   · have:u.born<since:=by omega
     simp [g,this]
  rw [e1];exact this
 have hb:=ho.append hn;have hio: (left.filter (·.born<since)).isEmpty= ((es.filter fun e=> !(xY e.2.2 seen)).filter fun e=>blt e.2.2 since).isEmpty:=by
  have:=ho.len;rw [Bool.eq_iff_iff];simp only [Array.isEmpty_iff_size_eq_zero,List.isEmpty_iff_length_eq_zero,this,Array.length_toList]
 have got:∀ (i:Nat) (u:MapEntry),((left.filter (·.born<since)).toList++ (left.filter (·.born≥since)).toList)[i]?=some u→∃a,a∈ ((es.filter fun e=> !(xY e.2.2 seen)).filter fun e=>blt e.2.2 since) ++ ((es.filter fun e=> !(xY e.2.2 seen)).filter fun e=> !(blt e.2.2 since)) ∧VR E a.1 u.key∧VR E a.2.1 u.val∧u.born=a.2.2:=fun i u e=>by
  obtain⟨a,g1,g2⟩ :=hb.get i u e;exact⟨a,oG g1,g2⟩
 have ecs:cs.toList= (if((es.filter fun e=> !(xY e.2.2 seen)).filter fun e=>blt e.2.2 since).isEmpty then [none]else []) ++ ((left.filter (·.born<since)).toList++ (left.filter (·.born≥since)).toList).map some:=by
  simp only [cs,hio];split<;>simp
 have esz:cs.size=cs.toList.length:=by simp
 refine⟨?_,fun c hc=>?_⟩
 · rw [esz,ecs];by_cases g: ((es.filter fun e=> !(xY e.2.2 seen)).filter fun e=>blt e.2.2 since).isEmpty=true
   ·rw [if_pos g];simp
   · rw [←hio,Array.isEmpty_iff_size_eq_zero]at g;have:0< (left.filter (·.born<since)).toList.length:=by simp only [Array.length_toList];omega
     simp only [pU,lP];omega
 · have hc2:c<cs.toList.length:=by omega
   have hx:cs[c]?=some cs.toList[c] :=by rw [←oZ];exact lZ hc2
   have hmem:=List.getElem_mem hc2;rw [hx];generalize cs.toList[c] =y at hmem;rw [ecs]at hmem;rcases zq28.1 hmem with g|g
   · split at g
     · rename_i hi;simp only [zq32]at g;subst g;exact⟨none,by simp only [aFt,hi,if_true];simp,.inl ⟨rfl,rfl⟩⟩
     ·cases g
   · obtain⟨u,hu,rfl⟩ :=zq24.1 g;obtain⟨i,hi,rfl⟩ :=List.mem_iff_getElem.1 hu;obtain⟨a,ha,g2⟩ :=got i _ (lZ hi);exact⟨some a,by simp only [aFt];exact zq28.2 (.inr (zq24.2 ⟨a,ha,rfl⟩)),.inr ⟨a,_,rfl,rfl,g2⟩⟩
theorem aHE (r:Rel E h w.heap){b:Nat}{l:List (AV×Hp)}{L:Loc}(h0:aMF h b=some l)(hE:E b=some L)(hL:L.sh=0) :
  ∃v h',(v,h') ∈l∧∃cv w',(∀ty,(Instr.next (.pointer (some ⟨L.blk,0,none⟩)) false ty).run P w= .ok cv w') ∧VR E v cv∧Rel E h' w'.heap∧Ext E h w E h' w':=by
 unfold aMF at h0;split at h0
 · rename_i m since seen last hm;obtain⟨L',g1,Lm,g2,g3,g4⟩ :=r.obj _ _ hm;rw [hE]at g1;cases g1;split at h0
   · rename_i es clock hmm;obtain⟨L',k1,ES,k2,k3⟩ :=r.obj _ _ hmm;rw [g3]at k1;cases k1;cases hc: (!seen.isEmpty&& !es.isEmpty&&es.all (fun e=>ble last e.2.2))with
     |true=>rw [hc]at h0;cases h0
     | false=>
      rw [hc]at h0;simp only [cond]at h0;cases h0;have e1: (!(⟨seen⟩ :Array Nat).isEmpty&& !ES.isEmpty&&ES.all (·.born≥last)) =false:=by
       rw [←hc];have a1: (⟨seen⟩ :Array Nat).isEmpty=seen.isEmpty:=by rw [←Array.isEmpty_toList]
       have a2:ES.isEmpty=es.isEmpty:=by
        have:=k3.len;rw [Bool.eq_iff_iff];simp only [Array.isEmpty_iff_size_eq_zero,List.isEmpty_iff_length_eq_zero,this,Array.length_toList]
       have a3:ES.all (·.born≥last) =es.all (fun e=>ble last e.2.2) :=by
        rw [k3.all (fun n=>ble last n),←Array.all_toList];congr 1
        funext u
        rw [Bool.eq_iff_iff];simp
       rw [a1,a2,a3]
      obtain⟨c1,c2⟩ :=aFI k3 since seen;obtain⟨c,d,c3,c4⟩ :=aFH (P:=P) (w:=w) _ c1;obtain⟨x,c5,c6⟩ :=c2 c c3;refine⟨_,_,zq24.2 ⟨x,c5,rfl⟩,?_⟩;rcases c6 with⟨rfl,c7⟩ | ⟨a,u,rfl,c7,c8,c9,c10⟩
      · refine⟨.tuple #[.bool false],{w with drawn:=d},fun ty=>?_,?_,r,Ext.drew d⟩
        ·simp only [Instr.next,Sem.run_bind,qF g2,Result.andThen_ok,dG k2,e1,aAa,if_false,c4,c7,Sem.run_pure]
        ·simp only [VR];exact⟨_,rfl,VRs.cons (by simp [VR]) (VRs.nil E)⟩
      · have r1:Rel E h ({w with drawn:=d}:World).heap:=r;have q:=r1.setObj (o':=.miter m since (seen++ [a.2.2]) clock) (.mapIter (some Lm.blk) since (#[u.born].foldl (·.push ·) ⟨seen⟩) clock) hm hE rfl rfl (fun H' hH=> ⟨Lm,by rw [hH,←c10];simp,g3,g4⟩);refine⟨.tuple #[.bool true,u.key,u.val],bP {w with drawn:=d} L.blk (.mapIter (some Lm.blk) since ((⟨seen⟩ :Array Nat).push u.born) clock),fun ty=>?_,?_,q.1,(Ext.drew d).trans q.2⟩
        · have:=mK (P:=P) (w:={w with drawn:=d}) (ob':=.mapIter (some Lm.blk) since ((⟨seen⟩ :Array Nat).push u.born) clock) g2 (fun _ _ _ e=>by cases e);simp only [Instr.next,Sem.run_bind,qF g2,Result.andThen_ok,dG k2,e1,aAa,if_false,c4,c7,this,Sem.run_pure]
        · simp only [VR];exact⟨_,rfl,VRs.cons (by simp [VR]) (VRs.cons c8 (VRs.cons c9 (VRs.nil E)))⟩
   ·cases h0
 ·cases h0
theorem ERs.find {E:Emb}(p:Nat→Bool) :∀ {aS:List (AV×AV×Nat)} {us:List MapEntry},ERs E aS us→∀ {a},aS.find? (fun e=>p e.2.2) =some a→∃u,us.find? (fun u=>p u.born) =some u∧VR E a.1 u.key∧VR E a.2.1 u.val
 | [],_,_,a,e=>by simp at e
 | b::aS,_,r,a,e=>by
  simp only [ERs]at r;obtain⟨u,us',rfl,h2,h3,h4,h5⟩ :=r;rw [List.find?_cons]at e ⊢;rw [h4];split at e
  ·cases e;exact⟨u,rfl,h2,h3⟩
  ·exact ERs.find p h5 e
theorem aFJ (r:Rel E h w.heap){b:Nat}{v:AV}{L:Loc}(h0:aKe h b=some v)(hE:E b=some L) :
  L.sh=0∧∃cv,(Instr.entry (.pointer (some ⟨L.blk,0,none⟩))).run P w= .ok cv w∧VR E v cv:=by
 unfold aKe at h0;split at h0
 · rename_i m since seen last hm;obtain⟨L',g1,Lm,g2,g3,g4⟩ :=r.obj _ _ hm;rw [hE]at g1;cases g1;split at h0
   · rename_i stamp es clock hs hmm;obtain⟨L',k1,ES,k2,k3⟩ :=r.obj _ _ hmm;rw [g3]at k1;cases k1;cases hc:beq clock last with
     |false=>rw [hc]at h0;cases h0
     | true=>
      rw [hc]at h0;simp only [cond]at h0;split at h0
      · rename_i e he;cases h0;obtain⟨u,q1,q2,q3⟩ :=k3.find (fun n=>beq n stamp) he;have q1':ES.find? (·.born==stamp) =some u:=by
         rw [←Array.find?_toList];have e3: (fun u:MapEntry=> (u.born==stamp)) =fun u=>beq u.born stamp:=by funext u;rw [Bool.eq_iff_iff,beq_iff_eq,beq_eq]
         rw [e3];exact q1
        have hb: (⟨seen⟩ :Array Nat).back?=some stamp:=by simpa [←Array.getLast?_toList]using hs
        have hcl: (clock != last) =false:=by rw [beq_eq]at hc;simp [hc]
        refine⟨g4,.tuple #[u.key,u.val],?_,?_⟩
        ·simp only [Instr.entry,Sem.run_bind,qF g2,Result.andThen_ok,hb,dG k2,hcl,aAa,if_false,q1',Sem.run_pure]
        · simp only [VR];exact⟨_,rfl,VRs.cons q2 (VRs.cons q3 (VRs.nil E))⟩
      ·cases h0
   ·cases h0
 ·cases h0
theorem yG {r:Nat}{s:ByteArray}{p:Nat}(hr:w.heap[r]?=some (.stringIter s p)) : (getObj r).run P w= .ok (.stringIter s p) w:=by
 simp [getObj,Sem.run,hr]
theorem aFK {l n pos c d:Nat}(h0:aKd l n pos=some (c,d)) :Utf8.decode (eQ l n) pos= (c,d) ∧pos<l:=by
 unfold aKd at h0;rw [cF]at h0;by_cases hp:pos<l
 · simp only [hp,decide_true,cond]at h0;rw [cF]at h0;by_cases hc:Nat.mod (Nat.div n (Nat.pow 256 pos)) 256<128
   · simp only [hc,decide_true]at h0;cases h0;refine⟨?_,hp⟩;have hc':n / 256 ^ pos % 256<128:=hc;have hg: ((eQ l n).get! pos).toNat=n / 256 ^ pos % 256:=by
      have:=gI l n pos hp;simp only [eQ,ByteArray.get!];have h2: (⟨aJ l n⟩ :Array UInt8)[pos]! =UInt8.ofNat (n / 256 ^ pos % 256) :=by
       rw [Array.getElem!_eq_getD,wM,show(⟨aJ l n⟩ :Array UInt8) = (aJ l n).toArray from rfl,List.getElem?_toArray,this];rfl
      rw [h2];simp
     show Utf8.decode (eQ l n) pos= (n / 256 ^ pos % 256,1);have hlt:n / 256 ^ pos % 256<0x80:=hc';simp only [Utf8.decode,Nat.add_zero,hg,hlt,if_true]
   ·simp only [hc,decide_false,Option.some.injEq]at h0;exact⟨h0,hp⟩
 ·simp only [hp,decide_false,cond]at h0;cases h0
set_option maxHeartbeats 4000000 in
theorem aHF (r:Rel E h w.heap){o:Oper}(hρ:Reads E tm ρ (· ∈o.op.operands)){out:AOut}(h0:fP P h tm o=some out) :
  Out P E h w ((execOp ρ o).run P w) out∧ (cC o.op= .pure∨cC o.op= .read→aNt P E h w ((execOp ρ o).run P w) out) :=by
 unfold fP at h0;unfold execOp;split at h0
 all_goals (rename_i hop;try (simp only [hop];rw [hop]at hρ))
 · -- move
   obtain⟨a,ha,rfl⟩ :=cN h0;have hh:=hρ _ (by simp [Op.operands]) _ ha;exact⟨⟨E,w,_,.inl rfl,hh,r,Ext.refl _ _ _⟩,fun _=> ⟨rfl,_,rfl,hh⟩⟩
 · obtain⟨a,ha,rfl⟩ :=cN h0;have hh:=hρ _ (by simp [Op.operands]) _ ha;exact⟨⟨E,w,_,.inl rfl,hh,r,Ext.refl _ _ _⟩,fun _=> ⟨rfl,_,rfl,hh⟩⟩
 · -- pick
   split at h0
   · rename_i hc;obtain⟨a,ha,rfl⟩ :=cN h0;have:=hρ _ (by simp [Op.operands]) _ hc;simp only [VR]at this;have hh:=hρ _ (by simp [Op.operands]) _ ha;exact⟨⟨E,w,_,.inl (by simp [this,asBool]),hh,r,Ext.refl _ _ _⟩,fun _=> ⟨rfl,_,by simp [this,asBool],hh⟩⟩
   · rename_i hc;obtain⟨a,ha,rfl⟩ :=cN h0;have:=hρ _ (by simp [Op.operands]) _ hc;simp only [VR]at this;have hh:=hρ _ (by simp [Op.operands]) _ ha;exact⟨⟨E,w,_,.inl (by simp [this,asBool]),hh,r,Ext.refl _ _ _⟩,fun _=> ⟨rfl,_,by simp [this,asBool],hh⟩⟩
   ·cases h0
 · -- alloc
   rename_i e;split at h0
   · rename_i z hz;cases h0;obtain⟨cz,z1,z2⟩ :=eX hz;obtain⟨q1,q2⟩ :=iD r (z2 E).cells e;refine nq (by simp [cC]) ?_;exact hY (s:=Instr.alloc e true (.tuple #[])) (cv:=.pointer (some ⟨w.heap.size,0,none⟩)) (by simp [Instr.alloc,z1,newVar,newRow]) (uS w h _) q1 q2
   ·cases h0
 · -- box
   rename_i e x;obtain⟨a,ha,h0⟩ :=cB h0;cases h0;obtain⟨q1,q2⟩ :=iD r (hρ _ (by simp [Op.operands]) _ ha).cells e;refine nq (by simp [cC]) ?_;exact hY (s:=Instr.box e (ρ x)) (cv:=.pointer (some ⟨w.heap.size,0,none⟩)) (by simp [Instr.box,newVar,newRow]) (uS w h _) q1 q2
 · -- build
   rename_i t ps;split at h0
   · rename_i l hl;obtain⟨a,ha,rfl⟩ :=cN h0;obtain⟨g1,g2⟩ :=hρ.parts (fun p hp=>by simp only [Op.operands,List.mem_toArray,zq24];exact⟨p,hp,rfl⟩) hl;obtain⟨cv,k1,k2⟩ :=aFG (w:=w) (qs:=ps.map fun(i,x) => (i,ρ x)) ha (by rw [g1];simp) (by simpa [Function.comp_def]using g2);exact aN r k1 k2
   ·cases h0
 · -- buildSlice
   rename_i t n ps;split at h0
   · rename_i l hl;split at h0
     · rename_i cs s hcs;cases h0;obtain⟨g1,g2⟩ :=hρ.parts (fun p hp=>by simp only [Op.operands,List.mem_toArray,zq24];exact⟨p,hp,rfl⟩) hl;obtain⟨out,e,k1,k2,k3⟩ :=nO r (qs:=ps.map fun(i,x) => (i,ρ x)) hcs (by rw [g1];simp) (by simpa [Function.comp_def]using g2);obtain⟨q1,q2⟩ :=iD r k1 e;refine nq (by simp [cC]) ?_;exact hY (k3 w) (nM w h _ n n s n true (le_refl _) (le_refl _) (fun _=>rfl) k2) q1 q2
     ·cases h0
   ·cases h0
 · -- load
   rename_i t a;obtain⟨p,hp,h0⟩ :=cB h0;split at h0
   · rename_i b off;obtain⟨v,hv,rfl⟩ :=cN h0;have:=hρ _ (by simp [Op.operands]) _ hp;simp only [VR]at this;obtain⟨L,hE,hL⟩ :=this;obtain⟨cv,k1,k2⟩ :=aAN r hv hE;exact aN r (by simp [Instr.loadAt,hL,Instr.sureAddr,k1]) k2
   ·cases h0
 · -- store
   rename_i t a x;obtain⟨p,v,hp,hx,h0⟩ :=eK h0;split at h0
   · rename_i b off;obtain⟨h',hv,rfl⟩ :=qD h0;have:=hρ _ (by simp [Op.operands]) _ hp;simp only [VR]at this;obtain⟨L,hE,hL⟩ :=this;obtain⟨w',k1,k2,k3⟩ :=aFA r hv hE (hρ _ (by simp [Op.operands]) _ hx);refine nq (by simp [cC]) ?_;exact sR (by simp [Instr.storeAt,hL,Instr.sureAddr,k1]) k2 k3
   ·cases h0
 · -- nilCheck
   rename_i x;obtain⟨a,ha,h0⟩ :=cB h0;have hv:=hρ _ (by simp [Op.operands]) _ ha;split at h0
   ·cases h0
   ·cases h0
   ·cases h0
   ·cases h0
   · rename_i name t v;split at h0
     · rename_i f hm;cases h0;simp only [VR]at hv;obtain⟨u,hu,c,rfl,hc⟩ :=hv;obtain⟨k,hk⟩ :=aEx P;have hh:VR E (.meth name (.iface t v)) (.func (.method name) #[.iface t c] #[]) :=by simp only [VR];exact⟨_,rfl,c,rfl,hc⟩
       exact⟨⟨E,w,.func (.method name) #[.iface t c] #[],.inl (by simp [hu,hk,yD hm]),hh,r,Ext.refl _ _ _⟩,fun _=> ⟨rfl,_,by simp [hu,hk,yD hm],hh⟩⟩
     ·cases h0
   ·cases h0
   · rename_i v h1 h2 h3 h6 h4 h5;cases h0;have hr:∀A B,(A=Result.ok (Next.value (ρ x)) w→B) →A=Result.ok (Next.value (ρ x)) w→B:=fun _ _ f h=>f h;refine hr _ _ (fun e=> ⟨⟨E,w,ρ x,.inl e,hv,r,Ext.refl _ _ _⟩,fun _=> ⟨rfl,_,e,hv⟩⟩) ?_;cases a<;>simp only [VR]at hv
     case nilp=>exact absurd rfl h1
     case nili=>exact absurd rfl h2
     case nilf=>exact absurd rfl h3
     case meth n rc=>exact absurd rfl (h5 n rc)
     case val u=>exact absurd rfl (h6 u)
     case ilst=>obtain⟨vs,_,hv⟩ :=hv;rcases hv.2 with⟨_,_,_,hL,_⟩ | ⟨_,_,_,_,hL,_⟩ <;> (rw [hL];rfl)
     case iptr=>obtain⟨us,_,_,_,_,hL,_⟩ :=hv;rw [hL];rfl
     case gl=>rcases hv with⟨_,_,hL⟩ | ⟨_,_,_,_,hL,_⟩ <;> (rw [hL];rfl)
     all_goals (first
      | (rw [hv];rfl)
      | (obtain⟨L,_,hL⟩ :=hv;rw [hL];rfl)
      | (obtain⟨L,off,cap,_,hL,_⟩ :=hv;rw [hL];rfl)
      | (obtain⟨a,b,hL,_⟩ :=hv;rw [hL];rfl)
      | (obtain⟨u,hL,_⟩ :=hv;rw [hL];rfl))
 · -- binOp
   rename_i op t x y yt;obtain⟨a,b,ha,hb,h0⟩ :=eK h0;obtain⟨v,hv,rfl⟩ :=cN h0;obtain⟨cv,k1,k2⟩ :=aKi (w:=w) x y hv (hρ _ (by simp [Op.operands]) _ ha) (hρ _ (by simp [Op.operands]) _ hb);exact aN r k1 k2
 · -- unOp
   obtain⟨a,ha,h0⟩ :=cB h0;obtain⟨v,hv,rfl⟩ :=cN h0;obtain⟨cv,k1,k2⟩ :=aNu (P:=P) (w:=w) hv (hρ _ (by simp [Op.operands]) _ ha);exact aN r k1 k2
 · -- convert
   obtain⟨a,ha,h0⟩ :=cB h0;obtain⟨v,hv,rfl⟩ :=cN h0;obtain⟨cv,k1,k2⟩ :=aB6 r hv (hρ _ (by simp [Op.operands]) _ ha);exact aN r k1 k2
 · -- makeInterface
   rename_i t x;obtain⟨a,ha,h0⟩ :=cB h0;split at h0
   ·cases h0
   · rename_i d hni hu;cases h0;have hd:∀ms,d≠ .interface ms:=fun ms e=>hni ms (by rw [e]);refine aN r (cv:=.iface t (ρ x)) ?_ (by simp only [VR];exact⟨_,rfl,hρ _ (by simp [Op.operands]) _ ha⟩);cases d<;>first|exact absurd rfl (hd _) |simp [Instr.makeInterface,aB hu]
   ·cases h0
 · -- makeFunc
   rename_i f first cap
   split at h0
   · rename_i fs cs hf hc;cases h0;refine aN r (cv:=.func (.func f) (first.map ρ) (cap.map ρ)) (by simp [Instr.makeFunc]) ?_;simp only [VR];exact⟨first.toList.map ρ,cap.toList.map ρ,by congr 1<;> (apply Array.ext';simp),hρ.list (fun x hx=>by simp only [Op.operands,Array.mem_append];exact .inl (by simpa using hx)) hf,hρ.list (fun x hx=>by simp only [Op.operands,Array.mem_append];exact .inr (by simpa using hx)) hc⟩
   ·cases h0
 · rename_i name first cap
   split at h0
   · rename_i rc hf;cases hc:cap.isEmpty with
     |false=>rw [hc]at h0;cases h0
     | true=>
      rw [hc]at h0;simp only [cond]at h0;cases h0;obtain⟨u,us,hu1,hu2,hu3⟩ := (hρ.list (fun x hx=>by simp only [Op.operands,Array.mem_append];exact .inl (by simpa using hx)) hf).cons_inv;rw [hu3.nil_inv]at hu1;have e1:first.map ρ= #[u] :=by apply Array.ext';simpa using hu1
      have e2:cap.map ρ= #[] :=by have:=Array.isEmpty_iff.1 hc;subst this;simp
      exact aN r (cv:=.func (.method name) #[u] #[]) (by simp [Instr.makeFunc,e1,e2]) (by simp only [VR];exact⟨u,rfl,hu2⟩)
   ·cases h0
 · rename_i t path f pr first cap
   split at h0
   · rename_i rc hp hf;cases hc:cap.isEmpty with
     |false=>rw [hc]at h0;cases h0
     | true=>
      rw [hc]at h0;simp only [cond]at h0;cases h0;obtain⟨u,us,hu1,hu2,hu3⟩ := (hρ.list (fun x hx=>by simp only [Op.operands,Array.mem_append];exact .inl (by simpa using hx)) hf).cons_inv;rw [hu3.nil_inv]at hu1;have e1:first.map ρ= #[u] :=by apply Array.ext';simpa using hu1
      have e2:cap.map ρ= #[] :=by have:=Array.isEmpty_iff.1 hc;subst this;simp
      have e3:path= #[] :=by apply Array.ext';simpa using hp
      exact aN r (cv:=.func (.via t #[] f pr) #[u] #[]) (by simp [Instr.makeFunc,e1,e2,e3]) (by simp only [VR];exact⟨u,rfl,hu2⟩)
   ·cases h0
 · -- makeMap
   cases h0;obtain⟨q1,q2⟩ :=r.new (.map [] 0) (.map #[] 0) 0 (fun _ _ _ _ hH=> ⟨#[],hH,by simp [ERs]⟩);refine nq (by simp [cC]) ?_;refine hY (s:=Instr.makeMap _ (Option.map ρ none)) (cv:=.map (some w.heap.size)) (by simp [Instr.makeMap]) ?_ q1 q2;simp only [VR];exact⟨_,Emb.put_same _ _ _,rfl⟩
 · -- makeSlice
   rename_i t l c;obtain⟨a,b,ha,hb,h0⟩ :=eK h0;split at h0
   · rename_i k1 n k2 m;split at h0
     · rename_i e hu;split at h0
       · rename_i s z inf hs hz hinf;split at h0
         · rename_i hnm;cases hc: (ble s 40&&ble 1 s&&beq z.cells.length s&&ble inf.bytes 1000)with
           |false=>rw [hc]at h0;cases h0
           | true=>
            rw [hc]at h0;simp only [cond]at h0;cases h0;simp only [gG,aZ,dC,decide_eq_true_eq]at hc;obtain⟨⟨⟨hs40,hs1⟩,hzl⟩,hby⟩ :=hc;have e1:=hρ _ (by simp [Op.operands]) _ ha;have e2:=hρ _ (by simp [Op.operands]) _ hb;simp only [VR]at e1 e2;obtain⟨cz,z1,z2⟩ :=eX hz;have hzs:cz.cells.size=s:=by have:= (z2 E).cells.length;simp only [Array.length_toList]at this;omega
            obtain⟨nn,rfl⟩ :=Int.eq_ofNat_of_zero_le hnm.1;obtain⟨mm,rfl⟩ :=Int.eq_ofNat_of_zero_le (show 0≤m by omega);have hl1:IntKind.i64.wrap (nn:Int) =nn:=wrap_small (by omega);have hl2:IntKind.i64.wrap (mm:Int) =mm:=wrap_small (by omega);have zr:=aAe (z2 E).cells mm (by omega);rw [hzs]at zr;obtain⟨q1,q2⟩ :=iD r zr e;simp only [xW];have hbig:¬ ((inf.bytes:Int) * (mm:Int) >2 ^ 48) :=by
             have h3:inf.bytes*mm≤1000*100000:=mul_le_mul hby (by omega);rw [←Int.natCast_mul];generalize inf.bytes*mm=q at h3;omega
            have hcond:¬ ((((mm:Int) <0||decide ((inf.bytes:Int) * (mm:Int) >2 ^ 48)) =true∨ (nn:Int) <0) ∨ (nn:Int) > (mm:Int)) :=by
             simp only [hbig,decide_false,Bool.or_false,decide_eq_true_eq];omega
            refine nq (by simp [cC]) ?_;refine hY (cv:=.slice (some ⟨w.heap.size,0,none⟩) nn mm) ?_ (nM w h _ nn mm s mm true (by omega) (le_refl _) (fun _=>rfl) (by simp)) q1 q2;have hne1:¬ ((mm:Int) <0) :=by omega
            have hne2:¬ ((nn:Int) <0) :=by omega
            have hne3:¬ ((nn:Int) > (mm:Int)) :=by omega
            simp only [Instr.makeSlice,Sem.run_bind,aB hu,Result.andThen_ok,e1,e2,aAd,cD hinf,hl1,hl2];rw [if_neg (by simp only [Bool.or_eq_true,decide_eq_true_eq,gt_iff_lt];omega)];simp only [Sem.run_bind,run_askRoom,Result.andThen_ok,bM hs,xW];have fin:∀z':Array Value,z'=cz.cells∨mm*s=0→ (⟨((Array.range (mm*s)).map (fun i=>cz.cells[i % s]!)).toList⟩ :Array Value) = (Array.range (mm*s)).map (fun x=>z'[x % z'.size]!) :=by
             intro z' hz';rcases hz' with rfl|h0
             ·rw [hzs]
             · have e0:Array.range 0= #[] :=rfl;rw [h0,e0];simp
            by_cases h0:mm*s=0
            · rw [if_pos h0,fin #[] (.inr h0)];simp [newRow]
            · rw [if_neg h0,fin cz.cells (.inl rfl)];simp [newRow,z1]
         ·cases h0
       ·cases h0
     ·cases h0
   ·cases h0
 · -- slice
   rename_i t x lo hi mx;obtain⟨a,ha,h0⟩ :=cB h0;split at h0
   · rename_i l1 l2 l3 e1 e2 e3;split at h0
     · rename_i b1 b2 b3 d1 d2 d3;obtain⟨v,hv,rfl⟩ :=cN h0;obtain⟨cv,k1,k2⟩ :=aFF (w:=w) hv (hρ _ (by simp [Op.operands]) _ ha) (pE d1 (iT hρ (fun y hy=>by subst hy;simp [Op.operands]) e1)) (pE d2 (iT hρ (fun y hy=>by subst hy;simp [Op.operands]) e2)) (pE d3 (iT hρ (fun y hy=>by subst hy;simp [Op.operands]) e3));exact aN r k1 k2
     ·cases h0
   ·cases h0
 · -- fieldAddr
   rename_i t x f;obtain⟨a,ha,h0⟩ :=cB h0;split at h0
   · rename_i b off;split at h0
     · rename_i o' ho;cases h0;have:=hρ _ (by simp [Op.operands]) _ ha;simp only [VR]at this;obtain⟨L,hE,hL⟩ :=this;exact aN r (cv:=.pointer (some ⟨L.blk,L.sh+off+o',none⟩)) (by rw [hL];exact qE ho _ _) (by simp only [VR];exact⟨L,hE,by rw [add_assoc]⟩)
     ·cases h0
   ·cases h0
 · -- field
   rename_i t x f;obtain⟨a,ha,h0⟩ :=cB h0;split at h0
   · rename_i cs;have hv:=hρ _ (by simp [Op.operands]) _ ha;simp only [VR]at hv;obtain⟨us,hL,hus⟩ :=hv;split at h0
     · rename_i fs hu;split at h0
       · rename_i fd hfd;split at h0
         · rename_i d s hd hs;have hp:∃v,(bif isAggD d then some (AV.agg ((cs.drop fd.offset).take s))else cs[fd.offset]?) =some v∧out= .val v h:=by
            cases hg:isAggD d with
            |true=>rw [hg]at h0;simp only [cond]at h0;cases h0;exact⟨_,rfl,rfl⟩
            |false=>rw [hg]at h0;simp only [cond]at h0;obtain⟨v,hv,rfl⟩ :=cN h0;exact⟨v,hv,rfl⟩
           obtain⟨v,hv,rfl⟩ :=hp;obtain⟨cv,k1,k2⟩ :=aCc (w:=w) (cs:= ⟨us⟩) hd hs hus hv;exact aN r (by simp [Instr.field,aB hu,hfd,hL,asAgg,k1]) k2
         ·cases h0
       ·cases h0
     ·cases h0
   ·cases h0
 · -- indexAddr
   rename_i t x ix;obtain⟨a,b,ha,hb,h0⟩ :=eK h0;split at h0
   · rename_i e b' off len cap esz ex hu;split at h0
     · rename_i k s hk hs;cases hc:beq s esz with
       |false=>rw [hc]at h0;cases h0
       | true=>
        rw [hc]at h0;simp only [cond]at h0;cases h0;have:=eP hc;subst this;obtain⟨kk,hci,hlt⟩ :=iR hk (hρ _ (by simp [Op.operands]) _ hb);have hv:=hρ _ (by simp [Op.operands]) _ ha;simp only [VR]at hv;obtain⟨L,off',cap',hE,hL,g1,g2,g3,g4,g5⟩ :=hv;have hoff:=g4 (by omega);subst hoff;refine aN r (cv:=.pointer (some ⟨L.blk,L.sh+off+k*s,none⟩)) ?_ (by simp only [VR];exact⟨L,hE,by rw [add_assoc]⟩);simp [Instr.indexAt,hci,asIntOf,hL,aB hu,Nat.not_le.2 hlt,bM hs,dW]
     ·cases h0
   · rename_i len e b' off hu;split at h0
     · rename_i k s hk hs;cases h0;obtain⟨kk,hci,hlt⟩ :=iR hk (hρ _ (by simp [Op.operands]) _ hb);have hv:=hρ _ (by simp [Op.operands]) _ ha;simp only [VR]at hv;obtain⟨L,hE,hL⟩ :=hv;refine aN r (cv:=.pointer (some ⟨L.blk,L.sh+off+k*s,none⟩)) ?_ (by simp only [VR];exact⟨L,hE,by rw [add_assoc]⟩);simp [Instr.indexAt,hci,asIntOf,hL,aB hu,Nat.not_le.2 hlt,bM hs,dW,Instr.sureAddr]
     ·cases h0
   ·cases h0
 · -- index
   rename_i t x ix;obtain⟨a,b,ha,hb,h0⟩ :=eK h0;split at h0
   · rename_i l n hu;split at h0
     · rename_i k hk;cases h0;obtain⟨kk,hci,hlt⟩ :=iR hk (hρ _ (by simp [Op.operands]) _ hb);have hv:=hρ _ (by simp [Op.operands]) _ ha;simp only [VR]at hv;refine aN r (cv:=.int .u8 ((n / 256 ^ k % 256:Nat) :Int)) ?_ (by simp only [VR];rfl);have hg: (eQ l n)[k]?=some (UInt8.ofNat (n / 256 ^ k % 256)) :=by
        have h1:=gI l n k hlt;have h2:k< (eQ l n).size:=by rw [jU];exact hlt
        rw [getElem?_pos (eQ l n) k h2];congr 1;have h3:= (zq0.1 h1);obtain⟨h4,h5⟩ :=h3;rw [←h5];rfl
       simp [Instr.index,hci,asIntOf,hv,aB hu,hg]
     ·cases h0
   · rename_i len e cs hu;have hv:=hρ _ (by simp [Op.operands]) _ ha;simp only [VR]at hv;obtain⟨us,hL,hus⟩ :=hv;split at h0
     · rename_i k d s hk hd hs;obtain⟨kk,hci,hlt⟩ :=iR hk (hρ _ (by simp [Op.operands]) _ hb);have hp:∃v,(bif isAggD d then some (AV.agg ((cs.drop (k*s)).take s))else cs[k*s]?) =some v∧out= .val v h:=by
        cases hg:isAggD d with
        |true=>rw [hg]at h0;simp only [cond]at h0;cases h0;exact⟨_,rfl,rfl⟩
        |false=>rw [hg]at h0;simp only [cond]at h0;obtain⟨v,hv,rfl⟩ :=cN h0;exact⟨v,hv,rfl⟩
       obtain⟨v,hv,rfl⟩ :=hp;obtain⟨cv,k1,k2⟩ :=aCc (w:=w) (cs:= ⟨us⟩) hd hs hus hv;exact aN r (by simp [Instr.index,hci,asIntOf,hL,aB hu,Nat.not_le.2 hlt,bM hs,k1]) k2
     ·cases h0
   ·cases h0
 · -- lookup
   obtain⟨a,b,ha,hb,h0⟩ :=eK h0;obtain⟨v,hv,rfl⟩ :=cN h0;obtain⟨cv,k1,k2⟩ :=aDX r hv (hρ _ (by simp [Op.operands]) _ ha) (hρ _ (by simp [Op.operands]) _ hb);exact aN r k1 k2
 · -- mapUpdate
   rename_i t m k x;obtain⟨a,b,ha,hb,h0⟩ :=eK h0;obtain⟨c,hc,h0⟩ :=cB h0;obtain⟨h',hv,rfl⟩ :=qD h0;obtain⟨w',k1,k2,k3⟩ :=pF r hv (hρ _ (by simp [Op.operands]) _ ha) (hρ _ (by simp [Op.operands]) _ hb) (hρ _ (by simp [Op.operands]) _ hc);refine nq (by simp [cC]) ?_;exact sR k1 k2 k3
 · rename_i t m k x;obtain⟨a,b,ha,hb,h0⟩ :=eK h0;obtain⟨c,hc,h0⟩ :=cB h0;obtain⟨h',hv,rfl⟩ :=qD h0;obtain⟨w',k1,k2,k3⟩ :=pF r hv (hρ _ (by simp [Op.operands]) _ ha) (hρ _ (by simp [Op.operands]) _ hb) (hρ _ (by simp [Op.operands]) _ hc);refine nq (by simp [cC]) ?_;exact sR k1 k2 k3
 · -- mapEntry
   obtain⟨a,b,ha,hb,h0⟩ :=eK h0;obtain⟨v,h',hv,rfl⟩ :=aEw h0;obtain⟨cv,w',k1,k2,k3,k4⟩ :=aBj r hv (hρ _ (by simp [Op.operands]) _ ha) (hρ _ (by simp [Op.operands]) _ hb);refine nq (by simp [cC]) ?_;exact hY k1 k2 k3 k4
 · -- entryStore
   rename_i t m s x;obtain⟨a,b,ha,hb,h0⟩ :=eK h0;obtain⟨c,hc,h0⟩ :=cB h0;obtain⟨h',hv,rfl⟩ :=qD h0;obtain⟨w',k1,k2,k3⟩ :=yC r t hv (hρ _ (by simp [Op.operands]) _ ha) (hρ _ (by simp [Op.operands]) _ hb) (hρ _ (by simp [Op.operands]) _ hc);refine nq (by simp [cC]) ?_;exact sR k1 k2 k3
 · -- range
   rename_i t x;obtain⟨a,ha,h0⟩ :=cB h0;split at h0
   · rename_i l n hu;cases h0;have hv:=hρ _ (by simp [Op.operands]) _ ha;simp only [VR]at hv;obtain⟨q1,q2⟩ :=r.new (.siter l n 0) (.stringIter (eQ l n) 0) 0 (fun _ _ _ _ hH=> ⟨hH,rfl⟩);refine nq (by simp [cC]) ?_;refine hY (cv:=.pointer (some ⟨w.heap.size,0,none⟩)) (by simp [Instr.range,aB hu,hv]) ?_ q1 q2;exact uS w h 0
   · rename_i kt et m hu;split at h0
     · rename_i es clock hm;cases h0;have hv:=hρ _ (by simp [Op.operands]) _ ha;simp only [VR]at hv;obtain⟨Lm,hE,hv⟩ :=hv;obtain⟨L',k1,ES,k2,k3⟩ :=r.obj _ _ hm;rw [hE]at k1;cases k1;obtain⟨q1,q2⟩ :=r.new (.miter m clock [] clock) (.mapIter (some Lm.blk) clock #[] clock) 0 (fun E' H' hle he hH=> ⟨Lm,hH,hle.1 _ _ hE,rfl⟩);refine nq (by simp [cC]) ?_;refine hY (cv:=.pointer (some ⟨w.heap.size,0,none⟩)) (by simp [Instr.range,aB hu,hv,dG k2]) ?_ q1 q2;exact uS w h 0
     ·cases h0
   ·cases h0
 · -- next of a map
   rename_i it;obtain⟨a,ha,h0⟩ :=cB h0;split at h0
   · rename_i rr;have hv:=hρ _ (by simp [Op.operands]) _ ha;simp only [VR]at hv;obtain⟨L,hE,hL⟩ :=hv;split at h0
     · rename_i v h' hm;cases h0;have hz:L.sh=0:=by
        unfold aMF at hm;split at hm
        · rename_i m since seen last hmi;obtain⟨L',g1,Lm,g2,g3,g4⟩ :=r.obj _ _ hmi;rw [hE]at g1;cases g1;exact g4
        ·cases hm
       obtain⟨v1,h1,g1,cv,w',g2,g3,g4,g5⟩ :=aHE (P:=P) r hm hE hz;simp only [zq32,Prod.mk.injEq]at g1;obtain⟨rfl,rfl⟩ :=g1;refine nq (by simp [cC]) ?_;refine hY (cv:=cv) (w':=w') ?_ g3 g4 g5;rw [hL,hz];exact g2 _
     ·cases h0
   ·cases h0
 · -- next
   rename_i it;obtain⟨a,ha,h0⟩ :=cB h0;split at h0
   · rename_i rr;have hv:=hρ _ (by simp [Op.operands]) _ ha;simp only [VR]at hv;obtain⟨L,hE,hL⟩ :=hv;split at h0
     · rename_i l n pos hm;obtain⟨L',g1,g2,g3⟩ :=r.obj _ _ hm;rw [hE]at g1;cases g1;have hz:L.sh+0=0:=by omega
       rw [hz]at hL;cases hp:blt pos l with
       | true=>
        rw [hp]at h0;simp only [cond]at h0;split at h0
        · rename_i c d hc;cases h0;obtain⟨d1,d2⟩ :=aFK hc;have q:=r.setObj (o':=.siter l n (Nat.add pos d)) (.stringIter (eQ l n) (pos+d)) hm hE rfl rfl (fun H' hH=> ⟨hH,g3⟩);refine nq (by simp [cC]) ?_;refine hY (cv:=.tuple #[.bool true,.int .i64 pos,.int .i32 c]) (w':=bP w L.blk (.stringIter (eQ l n) (pos+d))) ?_ ?_ q.1 q.2
          · have hs:pos< (eQ l n).size:=by rw [jU];exact d2
            have:=mK (P:=P) (ob':=.stringIter (eQ l n) (pos+d)) g2 (fun _ _ _ e=>by cases e);simp [Instr.next,hL,yG g2,hs,d1,this,goInt]
          · simp only [VR];exact⟨_,rfl,VRs.cons (by simp [VR]) (VRs.cons (by simp [VR]) (VRs.cons (by simp [VR]) (VRs.nil E)))⟩
        ·cases h0
       | false=>
        rw [hp]at h0;simp only [cond]at h0;cases h0;have hs:¬pos< (eQ l n).size:=by rw [jU];intro e;rw [cF]at hp;simp [e]at hp
        refine aN r (cv:=.tuple #[.bool false]) ?_ (by simp only [VR];exact⟨_,rfl,VRs.cons (by simp [VR]) (VRs.nil E)⟩);simp [Instr.next,hL,yG g2,hs]
     ·cases h0
   ·cases h0
 · -- entry
   rename_i it;obtain⟨a,ha,h0⟩ :=cB h0;split at h0
   · rename_i rr;have hv:=hρ _ (by simp [Op.operands]) _ ha;simp only [VR]at hv;obtain⟨L,hE,hL⟩ :=hv;obtain⟨v,hm,rfl⟩ :=cN h0;obtain⟨hz,cv,g2,g3⟩ :=aFJ (P:=P) r hm hE;refine aN r (cv:=cv) ?_ g3;rw [hL,hz];exact g2
   ·cases h0
 · -- typeAssert
   obtain⟨a,ha,h0⟩ :=cB h0;obtain⟨v,hv,rfl⟩ :=cN h0;obtain⟨cv,k1,k2⟩ :=yF (w:=w) hv (hρ _ (by simp [Op.operands]) _ ha);exact aN r k1 k2
 · -- extract
   rename_i x i;obtain⟨a,ha,h0⟩ :=cB h0;split at h0
   · rename_i vs;obtain⟨v,hv,rfl⟩ :=cN h0;have hx:=hρ _ (by simp [Op.operands]) _ ha;simp only [VR]at hx;obtain⟨us,hL,hus⟩ :=hx;obtain⟨cv,k1,k2⟩ :=hus.get _ _ hv;have k1': (⟨us⟩ :Array Value)[i]?=some cv:=by rw [show(⟨us⟩ :Array Value) =us.toArray from rfl,List.getElem?_toArray];exact k1
     exact aN r (by simp only [hL,Instr.extract,k1',Sem.run_pure]) k2
   ·cases h0
 · -- call
   obtain⟨g1,g2⟩ :=aHD (ty:=o.type) r hρ h0;refine⟨g1,fun hk=>g2 ?_⟩;revert hk;rename_i c;simp only [cC];split<;>rename_i hcc<;>simp [hcc]
 · -- defer
   rename_i c;split at h0
   · rename_i args f hargs hf;split at h0
     · rename_i g first cap hg
       cases hc:dA P g with
       |false=>rw [hc]at h0;cases h0
       | true=>
        rw [hc]at h0;simp only [cond]at h0;cases h0;have hv:=hρ _ (by simp [Op.operands,Call.operands,hf]) _ hg;simp only [VR]at hv;obtain⟨a,b,hL,h1,h2⟩ :=hv;have hm:c.args.map ρ= ⟨c.args.toList.map ρ⟩ :=by apply Array.ext';simp
        refine nq (by simp [cC]) ?_;refine⟨{target:=.fn (.func g) ⟨b⟩,args:= ⟨a⟩ ++ ⟨c.args.toList.map ρ⟩},by simp [resolve,hf,hL,hm,Deferred.ofValue],⟨b,a++c.args.toList.map ρ,?_,(h1.append (hρ.list (fun x hx=>by simp only [Op.operands,Call.operands,Array.mem_append];exact .inr (by simpa using hx)) hargs)).append h2⟩⟩;congr 1;apply Array.ext';simp
     ·cases h0
   ·cases h0
 · -- panic
   obtain⟨a,ha,h0⟩ :=cB h0;split at h0
   · rename_i t v;cases h0;have hv:=hρ _ (by simp [Op.operands]) _ ha;refine nq (by simp [cC]) ?_;refine⟨_,?_,hv⟩;simp only [VR]at hv;obtain⟨u,hL,hu⟩ :=hv;simp [hL,Instr.panic]
   ·cases h0
 ·cases h0
end
end
end Go.Hb
