/- A machine on abstract values, its soundness, ways, plain laws. -/
import Derived.Test.YtnljmgihoioocaaGreatHA
import Derived.Lib.Strings
set_option linter.defProp false
set_option linter.unusedVariables false
set_option linter.unusedSimpArgs false
set_option linter.unusedSectionVars false
set_option maxRecDepth 100000
namespace Go.Hb
open Nat (add_assoc add_mul beq beq_eq ble blt le_refl mul_le_mul mul_le_mul_right)
open Option (getD)
noncomputable section
section
variable {P :Program} {E:Emb} {h h':Hp} {w w':World}
theorem qX (l n:Nat) : (hU l n).toList=aP l n:=by rw [ByteArray.toList_eq];rfl
theorem aBj {a b:ByteArray}(h:a.data.toList=b.data.toList) :a=b:=by
 cases a;cases b;simp at h;simp [h]
theorem aLi (l n l' a:Nat) :hU l n++hU l' a=hU (l+l') (n % 256 ^ l+256 ^ l*a) :=by
 apply aBj;simp [hU,aD1]
theorem aIK (l n a b:Nat)(h1:a≤b)(h2:b≤l) : (hU l n).extract a b=hU (b-a) (n / 256 ^ a) :=by
 rw [Lib.extract_eq];apply aBj;simp only [hU];rw [aG6,aG7 _ _ _ (by omega)]
theorem aIL {op:BinOp}{l n l' b:Nat}{v:AV}(a:aN0 op l n l' b=some v)(t:TypeId) :
  ∃cv,(binOp op t (.string (hU l n)) (.string (hU l' b))).run P w= .ok cv w∧VR E v cv:=by
 unfold aN0 at a;cases op<;>simp only at a<;>try (cases a;done)
 · cases hb:ble (l+l') 1000000000 with
   |false=>rw [hb]at a;cases a
   | true=>
    rw [hb]at a;simp only [cond]at a;cases a;have c:=Nat.le_of_ble_eq_true hb;refine⟨.string (hU l n++hU l' b),?_,by rw [aLi];simp only [VR];rfl⟩;have:¬ (((hU l n).size+ (hU l' b).size:Nat) :Int) >IntKind.i64.max:=by
     rw [mP,mP];simp [IntKind.max,IntKind.signed,IntKind.bits];omega
    simp only [binOp,Op.stringOp,this,if_false];rfl
 · cases a;refine⟨_,by simp only [binOp,Op.stringOp,qX];rfl,?_⟩;simp only [VR,yN];congr 1;simp [Bool.beq_eq_decide_eq]
 · cases a;refine⟨_,by simp only [binOp,Op.stringOp,qX];rfl,?_⟩;simp only [VR,yN];congr 1;simp [Bool.beq_eq_decide_eq]
 · cases a;refine⟨_,by simp only [binOp,Op.stringOp,qX];rfl,?_⟩;simp only [VR]
 · cases a;refine⟨_,by simp only [binOp,Op.stringOp,qX];rfl,?_⟩;simp only [VR]
theorem aN7 (d:Nat){t:TypeId}{x y:AV}{i j:Value}{b:Bool}(he:aeq P t x y=some b)(e:VR E x i)(c:VR E y j) :
  (Op.equalIn (d+1) t i j).run P w= .ok b w:=by
 unfold aeq at he;split at he<;>cases he<;>simp only [VR]at e c<;>rename_i f
 ·subst e c;simp [Op.equalIn,aB f]
 ·subst e c;simp [Op.equalIn,aB f]
 ·obtain⟨L,_,rfl⟩ :=c;subst e;simp [Op.equalIn,aB f]
 ·obtain⟨L,_,rfl⟩ :=e;subst c;simp [Op.equalIn,aB f]
 ·obtain⟨u,rfl,_⟩ :=c;subst e;simp [Op.equalIn,aB f]
 ·obtain⟨u,rfl,_⟩ :=e;subst c;simp [Op.equalIn,aB f]
 ·subst e c;simp [Op.equalIn,aB f]
 ·obtain⟨a,b,rfl,_⟩ :=c;subst e;simp [Op.equalIn,aB f]
 ·obtain⟨a,b,rfl,_⟩ :=e;subst c;simp [Op.equalIn,aB f]
 ·subst e c;simp [Op.equalIn,aB f]
 ·obtain⟨L,h,g,_,rfl,_⟩ :=c;subst e;simp [Op.equalIn,aB f]
 ·obtain⟨L,h,g,_,rfl,_⟩ :=e;subst c;simp [Op.equalIn,aB f]
 ·subst e c;simp [Op.equalIn,aB f]
 · rcases e with⟨k,_⟩ | ⟨L,a,g,_,rfl,_⟩
   ·omega
   ·subst c;simp [Op.equalIn,aB f]
theorem aHy {t:TypeId}{x y:AV}{c a:Value}{b:Bool}(he:aeq P t x y=some b)(d:VR E x c)(e:VR E y a) :
  (Op.equal t c a).run P w= .ok b w:=aN7 9999 he d e
theorem aHz (d:Nat){t:TypeId}{a:Array (String×TypeId)}(b:P.underlying t=some (.interface a)) : (Op.equalIn (d+1) t .nilIface .nilIface).run P w= .ok true w:=by
 simp [Op.equalIn,aB b]
theorem aHA {t:TypeId}{x y:AV}{e f:Value}{b:Bool}(he:aeq P t x y=some b)(d:VR E x e)(c:VR E y f)(X Y:Operand)(op:BinOp) :
  (eqGuard op t X Y e f).run P w= .ok () w∧ (op= .eql→binOp op t e f= (do pure (.bool (←Op.equal t e f)))) ∧ (op= .neq→binOp op t e f= (do pure (.bool (!(←Op.equal t e f))))) :=by
 unfold aeq at he;split at he<;>cases he<;>simp only [VR]at d c<;>rename_i j
 all_goals (first
  | (obtain⟨L,a,g,_,rfl,_⟩ :=d.resolve_left (fun h=>by have:=h.1;omega);subst c;refine⟨?_,fun h=>by subst h;simp [binOp],fun h=>by subst h;simp [binOp]⟩;cases op<;>simp [eqGuard])
  | (subst d c;refine⟨?_,fun h=>by subst h;simp [binOp],fun h=>by subst h;simp [binOp]⟩;cases op<;>simp [eqGuard])
  | (obtain⟨L,_,rfl⟩ :=c;subst d;refine⟨?_,fun h=>by subst h;simp [binOp],fun h=>by subst h;simp [binOp]⟩;cases op<;>simp [eqGuard])
  | (obtain⟨L,_,rfl⟩ :=d;subst c;refine⟨?_,fun h=>by subst h;simp [binOp],fun h=>by subst h;simp [binOp]⟩;cases op<;>simp [eqGuard])
  | (obtain⟨u,rfl,_⟩ :=c;subst d;refine⟨?_,fun h=>by subst h;simp [binOp],fun h=>by subst h;simp [binOp]⟩;cases op<;>simp [eqGuard])
  | (obtain⟨u,rfl,_⟩ :=d;subst c;refine⟨?_,fun h=>by subst h;simp [binOp],fun h=>by subst h;simp [binOp]⟩;cases op<;>simp [eqGuard])
  | (obtain⟨a,b,rfl,_⟩ :=c;subst d;refine⟨?_,fun h=>by subst h;simp [binOp],fun h=>by subst h;simp [binOp]⟩;cases op<;>simp [eqGuard])
  | (obtain⟨a,b,rfl,_⟩ :=d;subst c;refine⟨?_,fun h=>by subst h;simp [binOp],fun h=>by subst h;simp [binOp]⟩;cases op<;>simp [eqGuard])
  | (obtain⟨L,i,g,_,rfl,_⟩ :=c;subst d;refine⟨?_,fun h=>by subst h;simp [binOp],fun h=>by subst h;simp [binOp]⟩;cases op<;>simp [eqGuard])
  | (obtain⟨L,i,g,_,rfl,_⟩ :=d;subst c;refine⟨?_,fun h=>by subst h;simp [binOp],fun h=>by subst h;simp [binOp]⟩;cases op<;>simp [eqGuard]))
theorem wL (op:BinOp)(t:TypeId)(X Y:Operand)(k c:IntKind)(a b:Int) : (eqGuard op t X Y (.int k a) (.int c b)).run P w= .ok () w:=by
 cases op<;>simp [eqGuard]
theorem aLj (op:BinOp)(t:TypeId)(X Y:Operand)(a b:ByteArray) : (eqGuard op t X Y (.string a) (.string b)).run P w= .ok () w:=by
 cases op<;>simp [eqGuard]
theorem aN8 {op:BinOp}{t:TypeId}{x y:AV}{h j:Value}{v:AV}(X Y:Operand)(c:aN1 P op t x y (isLit X) (isLit Y) =some v)(e:VR E x h)(d:VR E y j) :
  ∃cv,(do eqGuard op t X Y h j;binOp op t h j:Sem Value).run P w= .ok cv w∧VR E v cv:=by
 unfold aN1 at c;split at c
 · rename_i k a q b;simp only [VR]at e d;subst e d;split at c
   · split at c
     ·cases c
     · rename_i hb;cases c;exact⟨_,by simp [wL,binOp,Op.shift,hb];rfl,by simp [VR]⟩
   · split at c
     ·cases c
     · rename_i hb;cases c;exact⟨_,by simp [wL,binOp,Op.shift,hb];rfl,by simp [VR]⟩
   · rename_i o p;split at c
     · rename_i hk;subst hk;obtain⟨cv,f,g⟩ :=aIJ (P:=P) (w:=w) (E:=E) c t o p;exact⟨cv,by simp [wL,f],g⟩
     ·cases c
 · rename_i l n r s;simp only [VR]at e d;subst e d;obtain⟨cv,f,g⟩ :=aIL (P:=P) (w:=w) (E:=E) c t;exact⟨cv,by simp [aLj,f],g⟩
 · simp only [VR]at e d;subst e d;cases hl: (isLit X||isLit Y)with
   |false=>rw [hl]at c;cases c
   | true=>
    rw [hl]at c;simp only [cond]at c;have m: (eqGuard op t X Y .nilIface .nilIface).run P w= .ok () w:=by
     cases op<;>first| (simp [eqGuard];done) | (cases X<;>cases Y<;>first| (simp [eqGuard];done) | (simp [isLit]at hl))
    split at c
    · rename_i i;cases c;refine⟨.bool true,?_,by simp [VR]⟩;have: (Op.equal t .nilIface .nilIface).run P w= .ok true w:=aHz 9999 i;simp [m,binOp,this]
    · rename_i i;cases c;refine⟨.bool false,?_,by simp [VR]⟩;have: (Op.equal t .nilIface .nilIface).run P w= .ok true w:=aHz 9999 i;simp [m,binOp,this]
    ·cases c
 · split at c
   · rename_i b hb;cases c;obtain⟨f,g,_⟩ :=aHA (w:=w) hb e d X Y .eql;exact⟨.bool b,by simp [f,g,aHy hb e d],by simp [VR]⟩
   · rename_i b hb;cases c;obtain⟨f,_,g⟩ :=aHA (w:=w) hb e d X Y .neq;exact⟨.bool (!b),by simp [f,g,aHy hb e d],by simp [VR]⟩
   ·cases c
theorem aSC {op:UnOp}{x v:AV}{c:Value}(a:aun op x=some v)(b:VR E x c) :∃cv,(Op.unary op c).run P w= .ok cv w∧VR E v cv:=by
 unfold aun at a;split at a<;>cases a<;>simp only [VR]at b<;>subst b
 ·exact⟨_,by simp [Op.unary,Op.intArith];rfl,by simp [VR,aAi]⟩
 ·exact⟨_,by simp [Op.unary];rfl,by simp [VR]⟩
theorem aAl :∀ {c:List AV} {n:Nat} {d:List Value},aD6 c=some n→VRs E c d →
  d= (aP c.length n).map fun b=>.int .u8 (b.toNat:Int)
 | [],n,d,h,e=>by simp [e.nil_inv,aP]
 | a :: c,n,d,h,e=>by
  obtain⟨u,o,rfl,g,l⟩ :=e.cons_inv;unfold aD6 at h;split at h
  ·rename_i f;cases f
  · rename_i m p f;cases f;split at h
    · rename_i hm;split at h
      · rename_i k hk;cases h;simp only [VR]at g;subst g;have j: (m.toNat+256*k) % 256=m.toNat:=by omega
        have i: (m.toNat+256*k) / 256=k:=by omega
        simp only [oI,aP,eK,j,i];rw [aAl hk l];congr 1;simp;omega
      ·cases h
    ·cases h
  ·cases h
theorem aG9 (bs:List UInt8)(f:Value→ByteArray→Sem (ForInStep ByteArray))(a:∀ (b:UInt8) s,f (.int .u8 (b.toNat:Int)) s=pure (ForInStep.yield (s.push b))) :
  ∀ (s:ByteArray),(forIn (m:=Sem) (bs.map fun b=>Value.int .u8 (b.toNat:Int)) s f).run P w= .ok ⟨⟨s.data.toList++bs⟩⟩ w:=by
 induction bs with
 |nil=>intro s;simp
 | cons b bs c=>
  intro s;simp only [eK,List.forIn_cons,Sem.run_bind,a,Sem.run_pure,Result.andThen_ok];have:=c (s.push b);simp at this ⊢;exact this
theorem run_bytesToString {a:Addr}{len cap:Nat}{bs:List UInt8}(h: (loadCells a len).run P w= .ok ⟨bs.map fun b=>Value.int .u8 (b.toNat:Int)⟩ w) :
  (Conv.bytesToString (.slice (some a) len cap)).run P w= .ok (.string ⟨⟨bs⟩⟩) w:=by
 simp only [Conv.bytesToString,Sem.run_bind,h,Result.andThen_ok]
 rw [show(⟨List.map (fun b:UInt8=>Value.int IntKind.u8 (b.toNat:Int)) bs⟩ :Array Value) = (List.map (fun b:UInt8=>Value.int IntKind.u8 (b.toNat:Int)) bs).toArray from rfl,List.forIn_toArray,
  aG9 bs _ (fun b s=>by simp)]
 rfl
theorem aIM (n:Int)(h:0≤n∧n<128) :Utf8.encode n=hU 1 n.toNat:=by
 have a:Utf8.valid n=true:=by simp [Utf8.valid];omega
 have hc:n.toNat<0x80:=by omega
 apply aBj;simp only [Utf8.encode,a,if_true,hc,hU,aP];rw [show n.toNat % 256=n.toNat by omega]
theorem aEU (r:Rel E h w.heap){s d:TypeId}{x v:AV}{t:Value}(a:vY P h s d x=some v)(g:VR E x t) :
  ∃cv,(convert s d t).run P w= .ok cv w∧VR E v cv:=by
 unfold vY at a;split at a
 · rename_i c f;cases a;simp only [VR]at g;subst g;exact⟨_,by simp [convert,aB c,aB f,Conv.intToInt];rfl,by simp [VR,aAi]⟩
 · rename_i c f;split at a
   · rename_i p;cases a;simp only [VR]at g;subst g;exact⟨_,by simp [convert,aB c,aB f,Conv.intToString];rfl,by simp [VR,aIM _ p]⟩
   ·cases a
 · rename_i c f;cases a;simp only [VR]at g;subst g;exact⟨_,by simp [convert,aB c,aB f];rfl,by simp [VR]⟩
 · rename_i e b B len D A x c f;split at a
   · rename_i l he hl;simp only [VR]at g;obtain⟨L,i,j,hE,rfl,G,H,F,u,I⟩ :=g;obtain⟨J,y,q,C⟩ :=aET r hl hE;unfold sE at a;split at a
     · rename_i n p;cases a;have m:=aAl p q;have k:l.length=len:=by rw [←q.length,C]
       refine⟨.string (hU l.length n),?_,by simp [VR]⟩;by_cases z:j=0
       · -- an empty slice of no room:nothing is read
         have o:len=0:=by omega
         subst o;have: (loadCells ⟨L.blk,i,none⟩ 0).run P w= .ok ⟨(aP l.length n).map fun b=>Value.int .u8 (b.toNat:Int)⟩ w:=by
          rw [k];simp [loadCells,loadCellsFrom,aP]
         simp only [convert,Sem.run_bind,aB c,aB f,Result.andThen_ok,aB he];exact run_bytesToString this
       · have:=u z;subst this;simp only [convert,Sem.run_bind,aB c,aB f,Result.andThen_ok,aB he];exact run_bytesToString (by rw [y P,m])
     ·cases a
   ·cases a
 ·cases a
def OVR (E:Emb) :Option AV→Option Value→Prop
 |none,none=>True
 |some a,some c=>VR E a c
 |_,_=>False
def NVR :Option Nat→Option Value→Prop
 |none,none=>True
 |some n,some c=>∃k,c= .int k (n:Int)
 |_,_=>False
theorem sK {x:Option AV}{cx:Option Value}{m:Option Nat}(h:gP x=some m)(a:OVR E x cx) :NVR m cx:=by
 unfold gP at h;split at h
 ·cases h;cases cx<;>simp_all [OVR,NVR]
 · split at h
   · rename_i b;cases h;cases cx with
     |none=>exact a
     |some c=>simp only [OVR,VR]at a;exact⟨_,by rw [a];congr 1;omega⟩
   ·cases h
 ·cases h
theorem jR (k:IntKind)(i:Nat)(y:Nat)(code:BoundsCode)(h1:i≤y) : (Instr.sliceBound (.int k (i:Int)) y code).run P w= .ok i w:=by
 have: (0:Int) ≤i∧ (i:Int) ≤y:=by omega
 simp [Instr.sliceBound,asIntOf,this]
theorem jF {isS:Bool}{len cap:Nat}{lo i g:Option Nat}{e f d:Option Value}(h1:NVR lo e)(h2:NVR i f)(j:NVR g d)(hm:g.isSome=true→i.isSome=true)
  (a:lo.getD 0≤i.getD len) (b:i.getD len≤g.getD cap) (c:g.getD cap≤cap) :
  (Instr.sliceBounds isS len cap e f d).run P w= .ok (lo.getD 0,i.getD len,g.getD cap) w:=by
 cases lo<;>cases i<;>cases g<;>cases e<;>cases f<;>cases d<;>simp only [NVR]at h1 h2 j<;>simp only [Option.isSome,getD]at hm a b c ⊢
 case some.some.some.some.some.some l h m _ _ _=>
  obtain⟨n,rfl⟩ :=h1;obtain⟨k,rfl⟩ :=h2;obtain⟨o,rfl⟩ :=j;simp [Instr.sliceBounds,jR _ _ _ _ c,jR _ _ _ _ b,jR _ _ _ _ a]
 case none.some.some.none.some.some=>
  obtain⟨k,rfl⟩ :=h2;obtain⟨o,rfl⟩ :=j;simp [Instr.sliceBounds,jR _ _ _ _ c,jR _ _ _ _ b]
 case some.some.none.some.some.none=>
  obtain⟨n,rfl⟩ :=h1;obtain⟨k,rfl⟩ :=h2;simp [Instr.sliceBounds,jR _ _ _ _ b,jR _ _ _ _ a]
 case none.some.none.none.some.none=>
  obtain⟨k,rfl⟩ :=h2;simp [Instr.sliceBounds,jR _ _ _ _ b]
 case some.none.none.some.none.none=>
  obtain⟨n,rfl⟩ :=h1;simp [Instr.sliceBounds,jR _ _ _ _ a]
 case none.none.none.none.none.none=>simp [Instr.sliceBounds]
 all_goals (simp at hm)
theorem aIN {t:TypeId}{x v:AV}{C:Value}{lo i o:Option Nat}{p q k:Option Value}(d:tJ P t x lo i o=some v)(l:VR E x C)
  (h1:NVR lo p) (h2:NVR i q) (z:NVR o k) :∃cv,(Instr.sliceAt t C p q k).run P w= .ok cv w∧VR E v cv:=by
 unfold tJ at d;split at d
 · rename_i len n r;split at d
   ·cases d
   · simp only at d;cases hb: (ble (lo.getD 0) (i.getD len) &&ble (i.getD len) len)with
     |false=>rw [hb]at d;cases d
     | true=>
      rw [hb]at d;simp only [cond]at d;cases d;simp only [iY,cM,decide_eq_true_eq]at hb;simp only [VR]at l;subst l;cases k with
      |some c=>exact z.elim
      | none=>
       refine⟨.string ((hU len n).extract (lo.getD 0) (i.getD len)),?_,by simp only [VR];rw [aIK _ _ _ _ hb.1 hb.2];rfl⟩;have:=jF (P:=P) (w:=w) (isS:=false) (len:=len) (cap:=len) h1 h2 (show NVR none none from trivial) (by simp) hb.1 (by simpa using hb.2) (le_refl _);simp [Instr.sliceAt,Instr.slice,aB r,mP,this]
 · rename_i e b J len cap F exact r;simp only at d;split at d
   ·cases d
   · rename_i sz g;cases hb: (beq sz F&&ble (lo.getD 0) (i.getD len) &&ble (i.getD len) cap)with
     |false=>rw [hb]at d;cases d
     | true =>
      rw [hb]at d;simp only [cond]at d;simp only [iY,bM,cM,decide_eq_true_eq]at hb;obtain⟨⟨rfl,j⟩,A⟩ :=hb;simp only [VR]at l;obtain⟨L,f,a,hE,rfl,K,M,I,H,N⟩ :=l;cases o with
      | some m =>cases i with
       |none=>cases d
       | some hh=>
        simp only at d;cases hb: (ble (getD (some hh) len) m&&ble m cap)with
        |false=>rw [hb]at d;cases d
        | true =>
         rw [hb]at d;simp only [cond]at d;cases d;simp only [iY,cM,decide_eq_true_eq,Option.getD_some]at hb j A;have:=jF (P:=P) (w:=w) (isS:=true) (len:=len) (cap:=a) h1 h2 z (by simp) (by simpa using j) (by simpa using hb.1) (by simp;omega);refine⟨.slice (if m=lo.getD 0 then some ⟨L.blk,f,none⟩else some ⟨L.blk,f+lo.getD 0*sz,none⟩) (hh-lo.getD 0) (m-lo.getD 0),?_,?_⟩
         ·simp [Instr.sliceAt,Instr.slice,aB r,this,cD g,fX]
         · simp only [VR];by_cases u:m=lo.getD 0
           · rw [if_pos u];have G:lo.getD 0*sz≤a*sz:=mul_le_mul_right _ (by omega);exact⟨L,f,m-lo.getD 0,hE,rfl,by simp;omega,by omega,fun _=>rfl,fun s=>by omega,by rw [show m-lo.getD 0=0 by omega];omega⟩
           · rw [if_neg u];have s:a≠0:=by have:lo.getD 0≤hh:=j;omega
             have G:m*sz≤a*sz:=mul_le_mul_right _ (by omega);have D:f+lo.getD 0*sz+ (m-lo.getD 0) *sz=f+m*sz:=by
              rw [add_assoc,←add_mul,show lo.getD 0+ (m-lo.getD 0) =m by have:lo.getD 0≤hh:=j;omega]
             exact⟨L,_,m-lo.getD 0,hE,rfl,by simp;omega,by omega,fun _=>rfl,fun _=>by rw [H s];omega,by rw [D];omega⟩
      | none =>
       simp only at d;cases d;cases k with
       |some c=>exact z.elim
       | none =>
        have:=jF (P:=P) (w:=w) (isS:=true) (len:=len) (cap:=a) h1 h2 (show NVR none none from trivial) (by simp) j (by simp;omega) (le_refl _);refine⟨.slice (if a=lo.getD 0 then some ⟨L.blk,f,none⟩else some ⟨L.blk,f+lo.getD 0*sz,none⟩) (i.getD len-lo.getD 0) (a-lo.getD 0),?_,?_⟩
        ·simp [Instr.sliceAt,Instr.slice,aB r,this,cD g,fX]
        · simp only [VR];by_cases u:a=lo.getD 0
          · rw [if_pos u];exact⟨L,f,a-lo.getD 0,hE,rfl,by omega,by omega,fun l=>by rw [I l],fun s=>by omega,by rw [show a-lo.getD 0=0 by omega];omega⟩
          · rw [if_neg u];have s:a≠0:=by omega
            have D:f+lo.getD 0*sz+ (a-lo.getD 0) *sz=f+a*sz:=by
             rw [add_assoc,←add_mul,show lo.getD 0+ (a-lo.getD 0) =a by omega]
            exact⟨L,_,a-lo.getD 0,hE,rfl,by omega,by omega,fun l=>by rw [I l],fun _=>by rw [H s];omega,by rw [D];omega⟩
 · rename_i e r
   have y:∀ {sz},aX P e=some sz→ (o.isSome=true→i.isSome=true) → (bif beq (lo.getD 0) 0&&beq (i.getD 0) 0&&beq (o.getD 0) 0 then some AV.nils else none) =some v →
     ∃cv,(Instr.sliceAt t C p q k).run P w= .ok cv w∧VR E v cv:=by
    intro sz g B d;cases hb: (beq (lo.getD 0) 0&&beq (i.getD 0) 0&&beq (o.getD 0) 0)with
    |false=>rw [hb]at d;cases d
    | true=>
     rw [hb]at d;simp only [cond]at d;cases d;simp only [bM,cM,decide_eq_true_eq]at hb;simp only [VR]at l;subst l;have:=jF (P:=P) (w:=w) (isS:=true) (len:=0) (cap:=0) h1 h2 z B (by omega) (by omega) (by omega);refine⟨.slice none 0 0,?_,by simp [VR]⟩;simp [Instr.sliceAt,Instr.slice,aB r,this,cD g,hb]
   cases g:aX P e with
   |none=>rw [g]at d;cases o<;>cases i<;>cases d
   | some sz=>
    rw [g]at d;cases o with
    |none=>exact y g (fun h=>by cases h) d
    | some m=>cases i with
     |none=>cases d
     |some hh=>exact y g (fun _=>rfl) d
 ·cases d
theorem aEV (off:Nat) :∀ (l:List Value) (k:Nat) (a:Array Value),(l.zipIdx k).foldl (fun a (p:Value×Nat) =>a.setIfInBounds (off+p.2) p.1) a=over a (off+k) l
 | [],_,_=>rfl
 | v::l,k,a=>by
  simp only [List.zipIdx_cons,List.foldl_cons,over];rw [aEV off l (k+1),add_assoc]
theorem tQ {e:Nat→Option (Nat×Nat)}:∀ {n:List (Nat×AV)} {qs:List (Nat×Value)} {c h:List AV} {d:Array Value},iR e c n=some h →
  n.map (·.1) =qs.map (·.1) →VRs E (n.map (·.2)) (qs.map (·.2)) →VRs E c d.toList→∃out,Instr.fill e d qs=some out∧VRs E h out.toList
 | [],qs,c,h,d,f,hk,_,l=>by
  simp [iR]at f;subst f;have:qs= [] :=by cases qs with|nil=>rfl|cons _ _=>simp at hk
  subst this;exact⟨d,rfl,l⟩
 | (i, a) ::n,qs,c,h,d,f,hk,C,l=>by
  cases qs with
  |nil=>simp at hk
  | cons q qs=>
   obtain⟨j,u⟩ :=q;simp only [eK,List.cons.injEq]at hk;obtain⟨rfl,hk⟩ :=hk;obtain⟨G,H,he,t,D⟩ :=C.cons_inv;simp only [eK,List.cons.injEq]at he;obtain⟨rfl,rfl⟩ :=he;simp only [iR]at f;split at f
   ·cases f
   · rename_i b size F;cases hb: (beq a.cells.length size&&ble (b+size) c.length)with
     |false=>rw [hb]at f;cases f
     | true =>
      rw [hb]at f;simp only [cond]at f;simp only [iY,bM,cM,decide_eq_true_eq]at hb;have s:u.cells.size=size:=by rw [←hb.1,←t.cells.length];simp
      have B:d.size=c.length:=by rw [←l.length];simp
      have m:VRs E (c.take b++a.cells++c.drop (b+size)) (over d b u.cells.toList).toList:=by
       refine VRs.of_get (by simp [mR];omega) fun k x g=>?_;rw [rN,lV _ _ _ _ (by simp;omega)];simp only [Array.length_toList,s];by_cases w:k<b
       · rw [zq9,hQ (by simp;omega),List.getElem?_take_of_lt w]at g;rw [if_neg (by omega)];obtain⟨v,r,o⟩ :=l.get k x g;exact⟨v,by simpa using r,o⟩
       · by_cases I:k<b+size
         · rw [hQ (by simp;omega),jA (by simp;omega)]at g;simp only [List.length_take]at g;rw [show min b c.length=b by omega]at g;rw [if_pos (by omega)];exact t.cells.get _ x g
         · rw [jA (by simp;omega),List.getElem?_drop]at g;simp only [tI,List.length_take]at g;rw [show b+size+ (k- (min b c.length+a.cells.length)) =k by omega]at g;rw [if_neg (by omega)];obtain⟨v,r,o⟩ :=l.get k x g;exact⟨v,by simpa using r,o⟩
      obtain⟨out,A,y⟩ :=tQ f hk D m;refine⟨out,?_,y⟩;have:u.cells.zipIdx.foldl (fun h (p:Value×Nat) =>h.setIfInBounds (b+p.2) p.1) d=over d b u.cells.toList:=by
       rw [←Array.foldl_toList,Array.toList_zipIdx,aEV];rfl
      simp only [Instr.fill,F];rw [if_neg (by simp;omega)];rw [←A];exact congrArg (fun z=>Instr.fill e z qs) this
theorem aD2 (l:List Field)(hl:∀f∈l,∃n,aX P f.type=some n) :
  ((l.mapM fun f=>do pure (f.offset,←sizeOf f.type) :Sem (List (Nat×Nat)))).run P w= .ok (l.map fun f=> (f.offset,(aX P f.type).getD 0)) w:=by
 induction l with
 |nil=>simp
 | cons f l c=>
  obtain⟨n,a⟩ :=hl f (cN ..);have:=c (fun g b=>hl g (cJ _ b));simp only [List.mapM_cons,Sem.run_bind,cD a,Result.andThen_ok,Sem.run_pure,eK,a,getD]at this ⊢;rw [this];rfl
theorem aIO {t:TypeId}{ps:List (Nat×AV)}{qs:Array (Nat×Value)}{v:AV}(a:aN2 P t ps=some v)(hk:ps.map (·.1) =qs.toList.map (·.1))(hp:VRs E (ps.map (·.2)) (qs.toList.map (·.2))) :
  ∃cv,(Instr.build t qs).run P w= .ok cv w∧VR E v cv:=by
 unfold aN2 at a;split at a
 · rename_i z fs hz o;obtain⟨q,h,m⟩ :=iK hz;split at a
   · rename_i y c;cases hb: (fs.all fun f=> (aX P f.type).isSome)with
     |false=>rw [hb]at a;cases a
     | true=>
      rw [hb]at a;simp only [cond]at a;cases a
      have b:∀f∈fs.toList,∃n,aX P f.type=some n:=fun f j=>by
       rw [Array.all_eq_true]at hb;obtain⟨i,r,rfl⟩ :=List.getElem_of_mem j;have:=hb i (by simpa using r);exact Option.isSome_iff_exists.1 (by simpa using this)
      have hm: (fs.mapM fun f=>do pure (f.offset,←sizeOf f.type) :Sem (Array (Nat×Nat))).run P w= .ok (fs.map fun(f:Field) => (f.offset,(aX P f.type).getD 0)) w:=by
       rw [Array.mapM_eq_mapM_toList];simp only [Sem.run_map,aD2 (w:=w) fs.toList b,Result.andThen_ok];refine congrArg (fun z=>Result.ok z w) ?_;apply Array.ext';simp
      obtain⟨out,k,g⟩ :=tQ c hk hp (m E).cells;refine⟨.agg out,?_,by simp only [VR];exact⟨_,rfl,g⟩⟩
      have p: (fun(i:Nat) => (fs.map fun(f:Field) => (f.offset,(aX P f.type).getD 0))[i]?) = (fun(i:Nat) =>match(fs[i]?:Option Field)with
        | some f=>match aX P f.type with
         |some s=>some (f.offset,s)
         |none=>none
        |none=>none) :=by
       funext i
       rw [Array.getElem?_map];cases j:fs[i]? with
       |none=>rfl
       | some f=>
        have d:f∈fs.toList:=by
         have:=zq44.1 j;obtain⟨r,rfl⟩ :=this;simp
        obtain⟨n,x⟩ :=b f d;simp [x]
      simp only [Instr.build,Sem.run_bind,h,Result.andThen_ok,aB o,hm];have l:Instr.fill (fun(i:Nat) => (fs.map fun(f:Field) => (f.offset,(aX P f.type).getD 0))[i]?) q.cells qs.toList=some out:=by
       rw [p];exact k
      rw [l];rfl
   ·cases a
 · rename_i z e n hz o;obtain⟨q,h,m⟩ :=iK hz;split at a
   ·cases a
   · rename_i s u;split at a
     · rename_i y c;cases a;obtain⟨out,k,g⟩ :=tQ c hk hp (m E).cells;refine⟨.agg out,?_,by simp only [VR];exact⟨_,rfl,g⟩⟩;simp only [Instr.build,Sem.run_bind,h,Result.andThen_ok,aB o,cD u,k];rfl
     ·cases a
 ·cases a
theorem nY (cs:List AV) :∀n,(lL cs n).length=n*cs.length
 |0=>by simp [lL]
 |n+1=>by rw [lL,tI,nY cs n,Nat.succ_mul];omega
theorem aLk (cs:List AV)(b:0<cs.length) :∀n i,i<n*cs.length→ (lL cs n)[i]?=cs[i % cs.length]?
 |0,i,h=>by simp at h
 | n+1,i,h=>by
  rw [lL];by_cases a:i<cs.length
  ·rw [hQ a,Nat.mod_eq_of_lt a]
  · rw [jA (by omega),aLk cs b n _ (by rw [Nat.succ_mul]at h;omega)];rw [←Nat.mod_eq_sub_mod (by omega)]
theorem aCE {b:List AV}{z:Array Value}(hz:VRs E b z.toList)(n:Nat)(g:0<z.size) :
  VRs E (lL b n) ((Array.range (n*z.size)).map (fun i=>z[i % z.size]!)).toList:=by
 have hl:=hz.length;simp only [Array.length_toList]at hl;refine VRs.of_get (by simp [nY,hl]) fun i a d=>?_;have c:i<n*b.length:=by have:= (zq0.1 d).1;rwa [nY]at this
 rw [aLk _ (by omega) _ _ c]at d;obtain⟨v,e,f⟩ :=hz.get _ a d;refine⟨v,?_,f⟩;rw [rN,Array.getElem?_map,Array.getElem?_range];rw [←hl]at c e;simp only [c,if_true,Option.map_some];simp only [rN]at e;rw [Array.getElem!_eq_getD,aAB,e];rfl
theorem qY (r:Rel E h w.heap){t:TypeId}{len s:Nat}{ps:List (Nat×AV)}{qs:Array (Nat×Value)}{cs:List AV}(d:qR P t len ps=some (cs,s))(hk:ps.map (·.1) =qs.toList.map (·.1))(hp:VRs E (ps.map (·.2)) (qs.toList.map (·.2))) :
  ∃ (out:List Value) (e:TypeId),VRs E cs out∧len*s≤out.length∧∀w,(Instr.buildSlice t len qs).run P w= .ok (.slice (some ⟨w.heap.size,0,none⟩) len len) {w with heap:=w.heap.push (.cells ⟨out⟩ e)}:=by
 unfold qR at d;split at d
 · rename_i e A;split at d
   · rename_i q z B hz;cases hb: (ble (len*q) 1000&& !(beq q 0) &&beq z.cells.length q)with
     |false=>rw [hb]at d;cases d
     | true =>
      rw [hb]at d;simp only [cond]at d;simp only [iY,bM,cM,decide_eq_true_eq,Bool.not_eq_true',decide_eq_false_iff_not]at hb;split at d
      · rename_i G j;cases d;obtain⟨C,J,y⟩ :=iK hz;have o:= (y E).cells.length;simp only [Array.length_toList]at o;have g:C.cells.size=s:=by omega
        have x:=aCE (y E).cells len (by omega);rw [g]at x;obtain⟨out,l,v⟩ :=tQ j hk hp x;have I :out.toList.length=len*s:=by
         have H:=v.length;have D:∀ {ps:List (Nat×AV)} {c:Nat→Option (Nat×Nat)} {a b:List AV},iR c a ps=some b→b.length=a.length:=by
          intro ps
          induction ps with
          |nil=>intro c a b f;simp [iR]at f;rw [f]
          | cons p ps F=>
           intro c a b f;simp only [iR]at f;split at f
           ·cases f
           · rename_i n size _;cases hc: (beq p.2.cells.length size&&ble (n+size) a.length)with
             |false=>rw [hc]at f;cases f
             | true=>
              rw [hc]at f;simp only [cond]at f;simp only [iY,bM,cM,decide_eq_true_eq]at hc;rw [F f];simp;omega
         rw [H,D j,nY];rw [hb.2]
        refine⟨out.toList,e,v,by omega,fun w=>?_⟩;have k:¬len*s>2 ^ 24:=by omega
        by_cases u:len*s=0
        · have m:len=0:=by
           rcases Nat.mul_eq_zero.1 u with h|h
           ·exact h
           ·omega
          subst m;have i:Array.range 0= #[] :=rfl;simp only [Nat.zero_mul,i,List.map_toArray,List.map_nil]at l;simp [Instr.buildSlice,aB A,cD B,i,l,newRow]
        · simp only [Instr.buildSlice,Sem.run_bind,aB A,Result.andThen_ok,cD B,k,if_false,Sem.run_pure,u,J];simp only [g];simp [l,newRow]
      ·cases d
   ·cases d
 ·cases d
theorem eN {r:Nat}{a:Array MapEntry}{c:Nat}(hr:w.heap[r]?=some (.map a c)) : (getObj r).run P w= .ok (.map a c) w:=by
 simp [getObj,Sem.run,hr]
theorem pZ {r:Nat}{ob ob':Obj}(hr:w.heap[r]?=some ob)(hc:∀c e f,ob≠ .cells c e f) : (setObj r ob').run P w= .ok () (cG w r ob') :=by
 cases ob<;>simp [setObj,Sem.run,hr,cG] <;>exact absurd rfl (hc _ _ _)
theorem aU6 (a b:ByteArray) : (a==b) =decide (a=b) :=by
 cases a with|mk x=>cases b with|mk y=>
 show ByteArray.beq _ _=_;simp [ByteArray.beq,Bool.beq_eq_decide_eq]
theorem fA {d:TypeDesc}{k:AV}{a:Value}(h:plainKey d k=true)(hk:VR E k a) :
  (∃i kk n,d= .int i∧k= .int kk n∧a= .int kk n) ∨ (∃l n,d= .string∧k= .str l n∧a= .string (hU l n)) ∨ (∃b,d= .bool∧k= .bool b∧a= .bool b) :=by
 unfold plainKey at h;split at h
 ·simp only [VR]at hk;exact .inl ⟨_,_,_,rfl,rfl,hk⟩
 ·simp only [VR]at hk;exact .inr (.inl ⟨_,_,rfl,rfl,hk⟩)
 ·simp only [VR]at hk;exact .inr (.inr ⟨_,rfl,rfl,hk⟩)
 ·cases h
theorem run_checkKey {t:TypeId}{d:TypeDesc}{k:AV}{a:Value}(e:Bool)(n:Nat)(c:P.underlying t=some d)(hp:plainKey d k=true)(hk:VR E k a) :
  (Instr.checkKey e (n+1) t a).run P w= .ok () w:=by
 rcases fA hp hk with⟨i,kk,m,rfl,rfl,rfl⟩ | ⟨l,m,rfl,rfl,rfl⟩ | ⟨b,rfl,rfl,rfl⟩ <;>simp [Instr.checkKey,aB c]
theorem aAJ {d:TypeDesc}{k f:AV}{g c:Value}{b:Bool}(hp:plainKey d k=true)(hk:VR E k g)(a:VR E f c)(hc:pQ k f=some b) :
  Instr.sameNow d g c=some b∧ (b=true→c=g) :=by
 rcases fA hp hk with⟨i,kk,m,rfl,rfl,rfl⟩ | ⟨l,m,rfl,rfl,rfl⟩ | ⟨b,rfl,rfl,rfl⟩
 · cases f<;>simp only [pQ]at hc<;>try (cases hc;done)
   split at hc
   · rename_i h;cases hc;simp only [VR]at a;subst h a;exact⟨by simp [Instr.sameNow],fun e=>by have:=beq_iff_eq.1 e;rw [this]⟩
   ·cases hc
 · cases f<;>simp only [pQ]at hc<;>try (cases hc;done)
   cases hc;simp only [VR]at a;subst a;refine⟨?_,fun e=>?_⟩
   · simp only [Instr.sameNow,yN,aU6];congr 2;apply propext;constructor
     ·intro e;have:=congrArg (fun s:ByteArray=>s.data.toList) e;exact this
     ·intro e;exact aBj e
   · rw [yN]at e;have:=of_decide_eq_true e;simp only [hU,this]
 · cases f<;>simp only [pQ]at hc<;>try (cases hc;done)
   cases hc;simp only [VR]at a;subst a;exact⟨by simp [Instr.sameNow],fun e=>by have:=beq_iff_eq.1 e;rw [this]⟩
theorem kV {d:TypeDesc}{k:AV}{h:Value}(hp:plainKey d k=true)(hk:VR E k h) :∀ {g:List (AV×AV×Nat)} {c:List MapEntry} {i:Nat} {r:Option (Nat×AV)},ERs E g c→pR k g i=some r →
  match r with
  |none=>Instr.findNow d h c i=some none
  |some (j,v) =>∃e l,i≤j∧g[j-i]?=some l∧c[j-i]?=some e∧Instr.findNow d h c i=some (some (j,e.val)) ∧VR E v e.val∧l.2.1=v∧e.key=h
 | [],c,i,r,he,b=>by
  simp [ERs]at he;simp [pR]at b;subst he b;rfl
 | a ::g,c,i,r,he,b=>by
  simp only [ERs]at he;obtain⟨u,C,rfl,m,w,B,n⟩ :=he;simp only [pR]at b;split at b
  · rename_i hc;cases b;obtain⟨f,p⟩ :=aAJ hp hk m hc;exact⟨u,a,le_refl _,by simp,by simp,by simp [Instr.findNow,f],w,rfl,p rfl⟩
  · rename_i hc;obtain⟨f,_⟩ :=aAJ hp hk m hc;have:=kV hp hk n b;cases r with
    |none=>simp only at this ⊢;simp [Instr.findNow,f,this]
    | some t=>
     obtain⟨j,v⟩ :=t;simp only at this ⊢;obtain⟨e,l,A,y,s,x,q,z,o⟩ :=this;refine⟨e,l,by omega,?_,?_,by simp [Instr.findNow,f,x],q,z,o⟩
     ·rw [show j-i= (j-Nat.succ i) +1 by omega];simpa using y
     ·rw [show j-i= (j-Nat.succ i) +1 by omega];simpa using s
  ·cases b
theorem ERs.length {b:List (AV×AV×Nat)}{c:List MapEntry}(he:ERs E b c) :c.length=b.length:=by
 induction b generalizing c with
 |nil=>simp [ERs]at he;subst he;rfl
 |cons a b e=>simp only [ERs]at he;obtain⟨u,f,rfl,_,_,_,d⟩ :=he;simp [e d]
theorem ERs.snoc {c:List (AV×AV×Nat)}{d:List MapEntry}(he:ERs E c d){k v:AV}{e cv:Value}{b:Nat}(hk:VR E k e)(i:VR E v cv) :ERs E (c++ [(k,v,b)]) (d++ [{key:=e,val:=cv,born:=b}]) :=by
 induction c generalizing d with
 |nil=>simp [ERs]at he;subst he;simp only [List.nil_append,ERs];exact⟨_,[],rfl,hk,i,rfl,rfl⟩
 |cons a c l=>simp only [ERs]at he;obtain⟨u,m,rfl,j,f,h,g⟩ :=he;simp only [aAb,ERs];exact⟨u,_,rfl,j,f,h,l g⟩
theorem ERs.setE {c:List (AV×AV×Nat)}{b:List MapEntry}(he:ERs E c b){k v:AV}{j cv:Value}(hk:VR E k j)(l:VR E v cv)(i:Nat)(f:MapEntry→MapEntry)(h:∀e,b[i]?=some e→f e= {e with key:=j,val:=cv}) :
  ERs E (Hb.setE k v c i) (b.modify i f) :=by
 induction c generalizing b i with
 |nil=>simp [ERs]at he;subst he;simp [Hb.setE,ERs]
 | cons a c n=>
  simp only [ERs]at he;obtain⟨u,p,rfl,m,o,g,d⟩ :=he;cases i with
  | zero=>
   have:=h u rfl;simp only [Hb.setE,List.modify_zero_cons,ERs,this];exact⟨_,p,rfl,hk,l,g,d⟩
  | succ i=>
   simp only [Hb.setE,List.modify_succ_cons,ERs];exact⟨u,_,rfl,m,o,g,n d i (fun e he=>h e (by simpa using he))⟩
theorem aSD {c:List (AV×AV×Nat)}{d:List MapEntry}(he:ERs E c d)(i:Nat)(e:MapEntry)(b:d[i]?=some e) :e.born=aEN c i:=by
 induction c generalizing d i with
 |nil=>simp [ERs]at he;subst he;simp at b
 | cons a c h=>
  simp only [ERs]at he;obtain⟨u,k,rfl,l,j,g,f⟩ :=he;cases i with
  |zero=>simp at b;subst b;exact g
  |succ i=>exact h f i (by simpa using b)
theorem wM {d:TypeDesc}{k:AV}{a:Value}(hp:plainKey d k=true)(hk:VR E k a)(n:Nat) :Instr.sameBits n a a=true:=by
 rcases fA hp hk with⟨i,kk,m,rfl,rfl,rfl⟩ | ⟨l,m,rfl,rfl,rfl⟩ | ⟨b,rfl,rfl,rfl⟩ <;>cases n<;>simp [Instr.sameBits,aU6]
theorem aEW {b:Type}{a:Array b}{i:Nat}{x:b}(h:a.toList[i]?=some x) :a[i]?=some x:=by simpa using h
theorem aHa (r:Rel E h w.heap){t:TypeId}{x k v:AV}{s o:Value}{ok:Bool}(a:aD7 P h t x k ok=some v)(l:VR E x s)(hk:VR E k o) :
  ∃cv,(Instr.lookup t s o ok).run P w= .ok cv w∧VR E v cv:=by
 unfold aD7 at a;split at a
 · rename_i G M q;split at a
   · rename_i kd z c hz;cases f:plainKey kd k with
     |false=>rw [f]at a;cases a
     | true =>
      rw [f]at a;simp only [cond]at a;obtain⟨j,C,g⟩ :=iK hz;have d:∀e,(Instr.checkKey e 10000 G o).run P w= .ok () w:=fun e=>run_checkKey e 9999 c f hk;split at a
      · cases a;simp only [VR]at l;subst l;refine⟨if ok then .tuple #[j,.bool false]else j,?_,?_⟩
        ·simp [Instr.lookup,aB q,d,Instr.findKey,aB c,Instr.findNow,C]
        · cases ok
          ·exact g E
          ·simp only [VR,if_true];exact⟨_,rfl,VRs.cons (g E) (VRs.cons (by simp [VR]) (VRs.nil E))⟩
      · rename_i m;simp only [VR]at l;obtain⟨L,hE,rfl⟩ :=l;split at a
        · rename_i I p hm;obtain⟨J,y,H,A,D⟩ :=r.obj _ _ hm;rw [hE]at y;cases y;split at a
          · rename_i i u n;cases a;have b:=kV f hk D n;simp only at b;obtain⟨e,K,_,_,_,F,B,_⟩ :=b;refine⟨if ok then .tuple #[e.val,.bool true]else e.val,?_,?_⟩
            ·simp [Instr.lookup,aB q,eN A,d,Instr.findKey,aB c,F]
            · cases ok
              ·exact B
              ·simp only [VR,if_true];exact⟨_,rfl,VRs.cons B (VRs.cons (by simp [VR]) (VRs.nil E))⟩
          · rename_i n;cases a;have b:=kV f hk D n;simp only at b;refine⟨if ok then .tuple #[j,.bool false]else j,?_,?_⟩
            ·simp [Instr.lookup,aB q,eN A,d,Instr.findKey,aB c,b,C]
            · cases ok
              ·exact g E
              ·simp only [VR,if_true];exact⟨_,rfl,VRs.cons (g E) (VRs.cons (by simp [VR]) (VRs.nil E))⟩
          ·cases a
        ·cases a
      ·cases a
   ·cases a
 ·cases a
theorem aEX {m:Nat}{L:Loc}{f b:List (AV×AV×Nat)}{a clock':Nat}{d ES':Array MapEntry}(r:Rel E h w.heap)(hm:h.look m=some (.map f a))(hE:E m=some L)
  (g:w.heap[L.blk]?=some (.map d a)) (he:ERs E b ES'.toList) :
  (∀P,(setObj L.blk (.map ES' clock')).run P w= .ok () (cG w L.blk (.map ES' clock'))) ∧Rel E (h.set m (.map b clock')) (cG w L.blk (.map ES' clock')).heap ∧
   Ext E h w E (h.set m (.map b clock')) (cG w L.blk (.map ES' clock')) :=by
 have:=r.setObj (o':=.map b clock') (.map ES' clock') hm hE rfl rfl (fun i c=> ⟨ES',c,he⟩);exact⟨fun P=>pZ g (fun _ _ _ e=>by cases e),this.1,this.2⟩
theorem rQ {b:Type}(a:Array b)(i:Nat)(f:b→b) : (a.modify i f).toList=a.toList.modify i f:=by simp
theorem sL (r:Rel E h w.heap){t:TypeId}{x k v:AV}{C g cv:Value}(a:pS P h t x k v=some h')(B:VR E x C)(hk:VR E k g)(D:VR E v cv) :
  ∃w',(Instr.mapUpdate t C g cv).run P w= .ok () w'∧Rel E h' w'.heap∧Ext E h w E h' w':=by
 unfold pS at a;split at a
 · rename_i J N m F;split at a
   · rename_i kd M b d hm;cases f:plainKey kd k with
     |false=>rw [f]at a;cases a
     | true=>
      rw [f]at a;simp only [cond]at a;simp only [VR]at B;obtain⟨L,hE,rfl⟩ :=B;obtain⟨O,z,A,l,n⟩ :=r.obj _ _ hm;rw [hE]at z;cases z;have j:∀e,(Instr.checkKey e 10000 J g).run P w= .ok () w:=fun e=>run_checkKey e 9999 d f hk;split at a
      · rename_i i u o;cases a;have c:=kV f hk n o;simp only [Nat.sub_zero]at c;obtain⟨e,Q,_,_,G,I,K,_,H⟩ :=c;have s:=aEW G;obtain⟨y,p,q⟩ :=aEX (clock':=b) (ES':=A.modify i fun e=>{e with key:=g,val:=cv}) r hm hE l (by rw [rQ];exact n.setE hk D i _ (fun _ _=>rfl));refine⟨_,?_,p,q⟩;simp [Instr.mapUpdate,aB F,eN l,j,Instr.findKey,aB d,I,Instr.keyThatStays,s,H,wM f hk,y P]
      · rename_i o;cases a;have c:=kV f hk n o;simp only at c;obtain⟨y,p,q⟩ :=aEX (clock':=b+1) (ES':=A.push {key:=g,val:=cv,born:=b}) r hm hE l (by rw [Array.toList_push];exact n.snoc hk D);refine⟨_,?_,p,q⟩;simp [Instr.mapUpdate,aB F,eN l,j,Instr.findKey,aB d,c,y P]
      ·cases a
   ·cases a
 ·cases a
theorem aD3 (r:Rel E h w.heap){t:TypeId}{x k v:AV}{H g:Value}(a:yL P h t x k=some (v,h'))(G:VR E x H)(hk:VR E k g) :
  ∃J w',(Instr.mapEntry t H g).run P w= .ok J w'∧VR E v J∧Rel E h' w'.heap∧Ext E h w E h' w':=by
 unfold yL at a;split at a
 · rename_i S T m M;split at a
   · rename_i kd N b z d hm hz;cases f:plainKey kd k with
     |false=>rw [f]at a;cases a
     | true=>
      rw [f]at a;simp only [cond]at a;simp only [VR]at G;obtain⟨L,hE,rfl⟩ :=G;obtain⟨U,C,D,o,n⟩ :=r.obj _ _ hm;rw [hE]at C;cases C;obtain⟨K,O,I⟩ :=iK hz;have j:∀e,(Instr.checkKey e 10000 S g).run P w= .ok () w:=fun e=>run_checkKey e 9999 d f hk;split at a
      · rename_i i u p;cases a;have c:=kV f hk n p;simp only [Nat.sub_zero]at c;obtain⟨e,W,_,_,q,R,F,_,Q⟩ :=c;have A:=aEW q
        obtain⟨B,s,y⟩ :=aEX (clock':=b) (ES':=D.modify i fun e=>{e with key:=g}) r hm hE o (by
         rw [rQ];exact n.setE hk F i _ (fun V l=>by rw [q]at l;cases l;rfl))
        refine⟨.tuple #[e.val,.int .i64 (aEN N i)],_,?_,by simp only [VR];exact⟨_,rfl,VRs.cons F (VRs.cons (by simp [VR]) (VRs.nil E))⟩,s,y⟩;simp [Instr.mapEntry,aB M,eN o,j,Instr.findKey,aB d,R,Instr.keyThatStays,A,Q,wM f hk,B P,goInt,aSD n i e q]
      · rename_i p;cases a;have c:=kV f hk n p;simp only at c;obtain⟨B,s,y⟩ :=aEX (clock':=b+1) (ES':=D.push {key:=g,val:=K,born:=b}) r hm hE o (by rw [Array.toList_push];exact n.snoc hk (I E));refine⟨.tuple #[K,.int .i64 b],_,?_,by simp only [VR];exact⟨_,rfl,VRs.cons (I E) (VRs.cons (by simp [VR]) (VRs.nil E))⟩,s,y⟩;simp [Instr.mapEntry,aB M,eN o,j,Instr.findKey,aB d,c,B P,O,goInt]
      ·cases a
   ·cases a
 ·cases a
theorem aEY {v:AV}{cv:Value}(k:VR E v cv){b:Nat}:∀ {h d:List (AV×AV×Nat)} {f:List MapEntry},ERs E h f→yK v b h=some d →
  ∃i,f.findIdx? (fun e=> (e.born:Int) == (b:Int)) =some i∧ERs E d (f.modify i fun e=>{e with val:=cv})
 | [],d,f,he,c=>by simp [yK]at c
 | a :: h,d,f,he,c=>by
  simp only [ERs]at he;obtain⟨u,m,rfl,l,p,g,j⟩ :=he;simp only [yK,bM]at c;by_cases hb:a.2.2=b
  · simp only [hb,decide_true,cond]at c;cases c;refine⟨0,by simp [List.findIdx?_cons,g,hb],?_⟩;simp only [List.modify_zero_cons,ERs];exact⟨_,m,rfl,l,k,by simp [g,hb],j⟩
  · simp only [hb,decide_false,cond]at c;split at c
    · rename_i r hr;cases c;obtain⟨i,o,n⟩ :=aEY k j hr;refine⟨i+1,?_,?_⟩
      · have: ((u.born:Int) == (b:Int)) =false:=by rw [g];simp;omega
        simp [List.findIdx?_cons,this,o]
      · simp only [List.modify_succ_cons,ERs];exact⟨u,_,rfl,l,p,g,n⟩
    ·cases c
theorem aBk (r:Rel E h w.heap)(t:TypeId){x s v:AV}{u cs cv:Value}(a:qS h x s v=some h')(q:VR E x u)(j:VR E s cs)(A:VR E v cv) :
  ∃w',(Instr.entryStore t u cs cv).run P w= .ok () w'∧Rel E h' w'.heap∧Ext E h w E h' w':=by
 unfold qS at a;split at a
 · rename_i m k n;split at a
   · rename_i G;split at a
     · rename_i H b hm;split at a
       · rename_i z f;cases a;simp only [VR]at q j;subst j;obtain⟨L,hE,rfl⟩ :=q;obtain⟨I,l,c,o,F⟩ :=r.obj _ _ hm;rw [hE]at l;cases l;obtain⟨i,p,y⟩ :=aEY A F f;have g: ((n.toNat:Nat) :Int) =n:=by omega
         rw [g]at p;obtain⟨B,C,D⟩ :=aEX (clock':=b) (ES':=c.modify i fun e=>{e with val:=cv}) r hm hE o (by rw [rQ];exact y);refine⟨_,?_,C,D⟩;have d:c.findIdx? (fun e=> (e.born:Int) ==n) =some i:=by cases c;simpa using p
         simp [Instr.entryStore,eN o,asInt,asIntOf,d,B P]
       ·cases a
     ·cases a
   ·cases a
 ·cases a
inductive Adds (P:Program) (w:World) (at1:TypeId) (e:TypeId) (sz:Nat) :Value→List Value→Nat→Prop
 | slice (a:Addr) (n c:Nat) (us:List Value) (d:TypeDesc) (hd:P.underlying at1=some d) (hi:∀k,d≠ .int k) (hl:∀w1:World,w1.heap=w.heap→ (loadCells a (n*sz)).run P w1= .ok ⟨us⟩ w1) :
   Adds P w at1 e sz (.slice (some a) n c) us n
 |nil (d:TypeDesc) (hd:P.underlying at1=some d) (hi:∀k,d≠ .int k) :Adds P w at1 e sz (.slice none 0 0) [] 0
 | zeros (l:Int) (n:Nat) (z:Value) (k:IntKind) (inf:TypeInfo) (us:List Value) (hd:P.underlying at1=some (.int k)) (hl:l= (n:Int)) (hn:n<100000) (hi:P.info? e=some inf) (hb:inf.bytes≤1000)
   (hz:∀w,(zeroValue e).run P w= .ok z w) (hus:us= (Builtin.zeroCells z.cells n).toList) (hs:z.cells.size=sz) (h1:1≤sz) :Adds P w at1 e sz (.int .i64 l) us n
theorem wrap_small {n:Nat}(h:n<100000) :IntKind.i64.wrap (n:Int) =n:=by
 simp [IntKind.wrap,IntKind.bits,IntKind.signed];omega
set_option maxRecDepth 100000 in
theorem run_append_room {b:Array TypeId}{ty st s e:TypeId}{sz len cap n:Nat}{base:Option Addr}{cx:Value}{us:List Value}(hA:Adds P w s e sz cx us n)
  (j:b[0]?=some st) (h1:b[1]?=some s) (A:P.underlying st=some (.slice e)) (u:aX P e=some sz) (g:len+n≤cap)
  (f:match base with|some a=> (storeCells (a.add (len*sz)) us).run P w= .ok () w'|none=>w'=w) :
  (Builtin.append_ b ty #[.slice base len cap,cx]).run P w= .ok (.slice base (len+n) cap) w':=by
 have v: (#[Value.slice base len cap,cx] :Array Value)[0]?=some (.slice base len cap) :=rfl;have y: (#[Value.slice base len cap,cx] :Array Value)[1]?=some cx:=rfl;unfold Builtin.append_;cases hA with
 | slice a n c us d o B hl=>
  have:=hl w rfl;simp only [j,h1,v,y,Sem.run_bind,aB A,cD u,aB o,Result.andThen_ok,Sem.run_pure,sF,if_false,if_true,Builtin.lenOf,Builtin.firstCells,g,Bool.not_false,this];cases base with
  |none=>simp only at f;subst f;simp only [Sem.run_pure]
  |some a=>simp only at f;simp only [Sem.run_bind,f,Result.andThen_ok,Sem.run_pure]
 | nil d o B=>
  simp only [j,h1,v,y,Sem.run_bind,aB A,cD u,aB o,Result.andThen_ok,Sem.run_pure,sF,if_false,if_true,Builtin.lenOf,Builtin.firstCells,g,Bool.not_false];cases base with
  |none=>simp only at f;subst f;simp only [Sem.run_pure]
  |some a=>simp only at f;simp only [Sem.run_bind,f,Result.andThen_ok,Sem.run_pure]
 | zeros l n z k i us o hl C B hb hz m G D=>
  subst hl;have H:=wrap_small C;have r:¬ ((n:Int) <0) :=by omega
  have p:¬ ((n:Int) * (i.bytes:Int) >2 ^ 48) :=by
   have F:n*i.bytes≤100000*1000:=mul_le_mul (by omega) hb;rw [←Int.natCast_mul];generalize n*i.bytes=q at F;omega
  simp only [j,h1,v,y,Sem.run_bind,aB A,cD u,aB o,Result.andThen_ok,Sem.run_pure];simp only [if_true,Sem.run_bind,aCD,Result.andThen_ok];simp only [H,r,if_false];simp only [Sem.run_bind,dH B,Result.andThen_ok];rw [if_neg p];simp only [Sem.run_bind,Sem.run_pure,Result.andThen_ok,oY];rw [if_pos g];simp only [Bool.not_true,sF,if_false,Sem.run_bind];have t: (if n*sz=0 then pure #[]else do let __do_lift ←zeroValue e;pure (Builtin.zeroCells __do_lift.cells n) :Sem (Array Value)).run P w= .ok ⟨us⟩ w:=by
   by_cases j:n*sz=0
   · have x:n=0:=by
      rcases Nat.mul_eq_zero.1 j with h|h
      ·exact h
      ·omega
     subst x;have:us= [] :=by rw [m];simp [Builtin.zeroCells]
     subst this;simp
   ·simp only [j,if_false,Sem.run_bind,hz,Result.andThen_ok,Sem.run_pure,m]
  simp only [t,Result.andThen_ok];cases base with
  |none=>simp only at f;subst f;simp only [Sem.run_pure]
  |some a=>simp only at f;simp only [Sem.run_bind,f,Result.andThen_ok,Sem.run_pure]
theorem aHB (n:Nat) :∀ (r c:Nat),c≤n→Builtin.growBy n r c≤2*n+1000
 |0,c,h=>by simp [Builtin.growBy];omega
 | r+1,c,h=>by
  simp only [Builtin.growBy];split
  ·omega
  · by_cases a:c+ (c+768) / 4≤n
    ·exact aHB n r _ a
    · cases r with
      |zero=>simp [Builtin.growBy];omega
      |succ r=>simp only [Builtin.growBy];rw [if_pos (by omega)];omega
theorem aN9 {need cap:Nat}(h:cap<need) :Builtin.nextslicecap need cap≤2*need+1000:=by
 unfold Builtin.nextslicecap;split
 ·omega
 · split
   ·omega
   ·exact aHB need 4 cap (by omega)
set_option maxRecDepth 100000 in
set_option maxHeartbeats 1000000 in
theorem run_append_grow {f:Array TypeId}{ty st G e:TypeId}{sz len cap n:Nat}{base:Option Addr}{cx:Value}{us os:List Value}(hA:Adds P w G e sz cx us n){z:AV}(hz:zeroOf P e=some z)
  {g:TypeInfo} (b:P.info? e=some g) (hb1:1≤g.bytes) (J:g.bytes≤1000)
  (x:f[0]?=some st) (h1:f[1]?=some G) (T:P.underlying st=some (.slice e)) (K:aX P e=some sz) (p:¬len+n≤cap) (hsm:len+n≤3000000)
  (A:∀Q:World,Q.heap=w.heap→ (Builtin.firstCells sz len (.slice base len cap)).run P Q= .ok ⟨os⟩ Q) :
  ∃ i s d,len+n≤i∧s.length= (i- (len+n)) *z.cells.length ∧
   (Builtin.append_ f ty #[.slice base len cap,cx]).run P w= .ok (.slice (some ⟨w.heap.size,0,none⟩) (len+n) i) {w with drawn:=d,heap:=w.heap.push (.cells ⟨os++us++s⟩ e)}:=by
 have M: (#[Value.slice base len cap,cx] :Array Value)[0]?=some (.slice base len cap) :=rfl;have H: (#[Value.slice base len cap,cx] :Array Value)[1]?=some cx:=rfl;obtain⟨W,O,z2⟩ :=iK hz;have R:W.cells.size=z.cells.length:=by have:= (z2 ⟨fun _=>none,fun _=>none⟩).cells.length;simpa using this
 have hng:Builtin.nextslicecap (len+n) cap*g.bytes≤2 ^ 48:=by
  have H:=aN9 (need:=len+n) (cap:=cap) (by omega);have e2:Builtin.nextslicecap (len+n) cap*g.bytes≤6001000*1000:=mul_le_mul (by omega) J;omega
 have r:¬Builtin.nextslicecap (len+n) cap*g.bytes>2 ^ 48:=by omega
 have D:¬g.bytes=0:=by omega
 have S:¬ (((len+n:Nat) :Int) >IntKind.i64.max) :=by simp [IntKind.max,IntKind.signed,IntKind.bits];omega
 have hq: (Question.appendCap (len+n) cap e).forced=false:=rfl;obtain⟨d,Z⟩ :∃d,d=w.drawn+1:= ⟨_,rfl⟩;obtain⟨nc,B⟩ :∃nc,nc= (Question.appendCap (len+n) cap e).cut (w.tape w.drawn (.appendCap (len+n) cap e)) := ⟨_,rfl⟩;have U:len+n≤nc:=by rw [B];simp only [Question.cut];omega
 have v: (choose (.appendCap (len+n) cap e)).run P w= .ok nc {w with drawn:=d}:=by
  simp only [run_choose,hq,B,Z];rfl
 have u:∀ (us:List Value) (X:Array Value),(⟨os⟩ ++ ⟨us⟩ ++X:Array Value) = ⟨os++us++X.toList⟩ :=fun us X=>by apply Array.ext';simp
 have m:=A {w with drawn:=d} rfl;refine⟨nc,(Builtin.zeroCells W.cells (nc- (len+n))).toList,d,U,by simp [Builtin.zeroCells,R],?_⟩;unfold Builtin.append_;cases hA with
 | slice a n c us t o I hl=>
  have j: (Builtin.firstCells sz n (Value.slice (some a) n c)).run P {w with drawn:=d}= .ok ⟨us⟩ {w with drawn:=d}:=by simpa [Builtin.firstCells]using hl {w with drawn:=d} rfl
  simp only [x,h1,M,H,Sem.run_bind,aB T,cD K,aB o,Result.andThen_ok,Sem.run_pure,sF,if_false,Builtin.lenOf];rw [if_neg p];simp only [Sem.run_bind,dH b,Result.andThen_ok];rw [if_neg (fun h=>by rcases h.2 with h|h<;>first|exact D h|cases h)];simp only [Sem.run_bind,dH b,Result.andThen_ok];rw [if_neg r];simp only [Sem.run_bind,v,Result.andThen_ok,dH b,run_askRoom,m,Bool.not_false,if_true,j,O,newRow,run_newObj,Sem.run_pure,u]
 | nil t o I=>
  simp only [x,h1,M,H,Sem.run_bind,aB T,cD K,aB o,Result.andThen_ok,Sem.run_pure,sF,if_false,Builtin.lenOf];rw [if_neg p];simp only [Sem.run_bind,dH b,Result.andThen_ok];rw [if_neg (fun h=>by rcases h.2 with h|h<;>first|exact D h|cases h)];simp only [Sem.run_bind,dH b,Result.andThen_ok];rw [if_neg r];have j: (Builtin.firstCells sz 0 (Value.slice none 0 0)).run P {w with drawn:=d}= .ok ⟨[]⟩ {w with drawn:=d}:=by simp [Builtin.firstCells]
  simp only [Sem.run_bind,v,Result.andThen_ok,dH b,run_askRoom,m,Bool.not_false,if_true,j,O,newRow,run_newObj,Sem.run_pure,u]
 | zeros l n z' k V us o hl Y I hb L y hs' h1'=>
  subst hl;rw [b]at I;cases I;have hw:=wrap_small Y;have F:¬ ((n:Int) <0) :=by omega
  have C:¬ ((n:Int) * (g.bytes:Int) >2 ^ 48) :=by
   have h3:n*g.bytes≤100000*1000:=mul_le_mul (by omega) hb;rw [←Int.natCast_mul];generalize n*g.bytes=q at h3;omega
  have j:∀w,(if n*sz=0 then pure #[]else do let __do_lift ←zeroValue e;pure (Builtin.zeroCells __do_lift.cells n) :Sem (Array Value)).run P w= .ok ⟨us⟩ w:=fun w=>by
   by_cases x:n*sz=0
   · have N:n=0:=by
      rcases Nat.mul_eq_zero.1 x with h|h
      ·exact h
      ·omega
     subst N;have:us= [] :=by rw [y];simp [Builtin.zeroCells]
     subst this;simp
   ·simp only [x,if_false,Sem.run_bind,L,Result.andThen_ok,Sem.run_pure,y]
  simp only [x,h1,M,H,Sem.run_bind,aB T,cD K,aB o,Result.andThen_ok,Sem.run_pure];simp only [if_true,Sem.run_bind,aCD,Result.andThen_ok];simp only [hw,F,if_false];simp only [Sem.run_bind,dH b,Result.andThen_ok];rw [if_neg C];simp only [Sem.run_bind,Sem.run_pure,Result.andThen_ok,oY];rw [if_neg p];simp only [Sem.run_bind,dH b,Result.andThen_ok];rw [if_neg (fun h=>S h.1)];simp only [Sem.run_bind,dH b,Result.andThen_ok];rw [if_neg r];simp only [Sem.run_bind,v,Result.andThen_ok,dH b,run_askRoom,m,Bool.not_true,sF,if_false,j,O,newRow,run_newObj,Sem.run_pure,u]
theorem aLl (r:Rel E h w.heap){c:Array TypeId}{e:TypeId}{sz n:Nat}{x:AV}{F:Value}{B:List AV}(a:aBg P h c e sz x=some (B,n))(m:VR E x F)
  {j:TypeInfo} (s:P.info? e=some j) (hb:j.bytes≤1000) (h1:1≤sz) :
  ∃t o,c[1]?=some t∧Adds P w t e sz F o n∧VRs E B o∧o.length=n*sz:=by
 unfold aBg at a;split at a
 ·cases a
 · rename_i v i;split at a
   · rename_i k l p;split at a
     · rename_i hl;split at a
       · rename_i z hz;cases hc: (beq z.cells.length sz&& !(beq sz 0))with
         |false=>rw [hc]at a;cases a
         | true=>
          rw [hc]at a;simp only [cond]at a;cases a;simp only [bM,cM,decide_eq_true_eq]at hc;obtain⟨H,R,G⟩ :=iK hz;have C:= (G E).cells.length;simp only [Array.length_toList]at C;simp only [VR]at m;subst m;have q:H.cells.size=sz:=by omega
          refine⟨v,_,i,.zeros l l.toNat H k j _ p (by omega) (by omega) s hb R rfl q h1,aCE (G E).cells _ (by omega),by simp [Builtin.zeroCells,q]⟩
       ·cases a
     ·cases a
   ·cases a
   · rename_i d g p;cases a;simp only [VR]at m;subst m;exact⟨v,[],i,.nil d p (fun k e=>by subst e;exact g k rfl),VRs.nil E,by simp⟩
   · rename_i d b Q len U D W g p;cases hc:beq D sz with
     |false=>rw [hc]at a;cases a
     | true =>
      rw [hc]at a;simp only [cond]at a;have:=fN hc;subst this;split at a
      · rename_i o f;cases a;simp only [VR]at m;obtain⟨L,J,u,hE,rfl,V,X,Z,M,Y⟩ :=m;by_cases N:u=0
        · have A:n=0:=by omega
          subst A;have y:B= [] :=by
           unfold Hp.loadN at f;split at f
           ·simp [getCells]at f;exact f
           ·cases f
          subst y;exact⟨v,[],i,.slice _ _ _ _ d p (fun k e=>by subst e;exact g k rfl) (fun I _=>by simp [loadCells,loadCellsFrom]),VRs.nil E,by simp⟩
        · obtain⟨o,K,T,O⟩ :=wH r f hE;have:=M N;subst this;exact⟨v,o,i,.slice _ _ _ _ d p (fun k e=>by subst e;exact g k rfl) (fun I S=>K P I S),T,O⟩
      ·cases a
   ·cases a
theorem Rel.inplace (r:Rel E h w.heap){b off m k:Nat}{t T':T AV}{older:List Nat}(hb:h.look b=some (.cells t k older false)){L:Loc}(hE:E b=some L)
  {Q:List AV} {us:List Value} (hv:VRs E Q us) (N:dD Q=true) (hk:k≤off+m) (hfit:L.sh+off+m+Q.length≤L.sz)
  (hT:∀i a,T'.at i=some a→i<m+Q.length∧ (if i<m then t.at (off+i) =some a else Q[i-m]?=some a)) (e:Nat) (he:e=L.sh+off+m) :
  ∃ w',(∀P,(storeCells ⟨L.blk,e,none⟩ us).run P w= .ok () w') ∧
   Rel (E.put h.nb ⟨L.blk,L.sh+off,L.sz⟩) ((h.set b (.cells t k older true)).new (.cells T' (m+Q.length) (b::older) false)) w'.heap ∧
   Ext E h w (E.put h.nb ⟨L.blk,L.sh+off,L.sz⟩) ((h.set b (.cells t k older true)).new (.cells T' (m+Q.length) (b::older) false)) w':=by
 subst he;obtain⟨L',g1,C,e,I,g3,g4⟩ :=r.obj _ _ hb;rw [hE]at g1;cases g1;have hf:E h.nb=none:=r.fresh _ (le_refl _);have hbn:b≠h.nb:=fun e=>by rw [e,hf]at hE;cases hE
 have K:E.le (E.put h.nb ⟨L.blk,L.sh+off,L.sz⟩) :=Emb.le_put hf;have hul:=hv.length
 have z:∀ {x ox g},h.look x=some ox→E x=some g→x≠b→Own ox g L.blk→x∈older∧jD ox=true∧g.sh+nOf ox≤L.sh+k:=fun A hEx J d=>by
  rcases r.kin _ _ _ _ _ _ hb A hE hEx ⟨_,rfl,d⟩ (fun e=>J e.symm)with F| ⟨_,F,_⟩
  ·exact F
  ·cases F
 have O:∀ {ox:AObj} {g:Loc},jD ox=true→g.sh+nOf ox≤L.sh+k→Own ox g L.blk→OR E w.heap g ox→OR (E.put h.nb ⟨L.blk,L.sh+off,L.sz⟩) (cG w L.blk (.cells (over C (L.sh+off+m) us) e (0,0))).heap g ox:=by
  intro ox g M hn d N;cases ox with
  |zone w0 r0 Z=>cases M
  | cells tx nx j sx=>
   have d:g.blk=L.blk:=d;obtain⟨C',e',o,k3,k4⟩ :=N;rw [d,I]at o;cases o;refine⟨_,e,by rw [d];exact pY I,by rw [mR];exact k3,fun i a ha=>?_⟩;obtain⟨q0,v,S,q2⟩ :=k4 i a ha;refine⟨q0,v,?_,q2.mono K⟩;simp only [nOf]at hn;rw [lV _ _ _ _ (by omega),if_neg (by omega)];exact S
  |map es c=>have d:g.blk=L.blk:=d;obtain⟨ES,o,_⟩ :=N;rw [d,I]at o;cases o
  |siter l n p=>have d:g.blk=L.blk:=d;obtain⟨o,_⟩ :=N;rw [d,I]at o;cases o
  |loop st pe fn tm nt ps aS bd df=>have d:g.blk=L.blk:=d;obtain⟨_,_,o,_⟩ :=N;rw [d,I]at o;cases o
  |defd tk=>have d:g.blk=L.blk:=d;simp only [OR]at N;rw [d,I]at N;cases N
  |lst ee xs=>cases M
  |lstv u ee xs=>cases M
  |miter m s l n=>have d:g.blk=L.blk:=d;obtain⟨_,o,_⟩ :=N;rw [d,I]at o;cases o
  |mapx es c k v=>have d:g.blk=L.blk:=d;obtain⟨ES,o,_⟩ :=N;rw [d,I]at o;cases o
 have hks:∀x ox,((h.set b (.cells t k older true)).new (.cells T' (m+Q.length) (b::older) false)).look x=some ox→x=h.nb∨∃o0,h.look x=some o0:=fun x ox e=>by
  rw [cQ,jE]at e;split at e
  ·rename_i A;exact .inl A
  · rw [aY]at e;split at e
    ·rename_i A;subst A;exact .inr ⟨_,hb⟩
    ·exact .inr ⟨ox,e⟩
 refine⟨cG w L.blk (.cells (over C (L.sh+off+m) us) e (0,0)),fun P=>?_,⟨?_,?_,?_,r.imm_put hb hE _,?_,fun x ox e=>by
  rw [oM,jE];rcases hks x ox e with rfl| ⟨o0,e0⟩
  ·omega
  ·have:=r.keys x o0 e0;omega⟩,⟨K,by simp [cG],?_,?_,by simp [oM,jE],rfl,rfl,rfl,fun x A=>Emb.put_ne _ _ (by omega),(fun a _=>tP I rfl rfl a),fun _ _ e _=>.inl e,fun x ox e A=> (hks x ox e).resolve_left (by omega)⟩⟩
 · have:=lW (P:=P) us (w:=w) (b:=L.blk) (k:=L.sh+off+m) (i:=0) I (by omega) (hv.ones N);simpa using this
 · intro x ox f;rw [cQ,jE]at f;split at f
   · rename_i A;cases f;subst A;refine .inr ⟨_,Emb.put_same _ _ _,over C (L.sh+off+m) us,e,pY I,by rw [mR];exact g3,fun i a ha=>?_⟩;obtain⟨q0,S⟩ :=hT i a ha;refine⟨q0,?_⟩;by_cases G:i<m
     · rw [if_pos G]at S;obtain⟨_,v,p1,p2⟩ :=g4 _ _ S;refine⟨v,?_,p2.mono K⟩;rw [lV _ _ _ _ (by omega),if_neg (by simp only;omega)];rw [←p1];congr 1;simp only;omega
     · rw [if_neg G]at S;obtain⟨v,p1,p2⟩ :=hv.get _ _ S;refine⟨v,?_,p2.mono K⟩;rw [lV _ _ _ _ (by omega),if_pos (by simp only;omega)];rw [←p1];congr 1;simp only;omega
   · rename_i A;rw [aY]at f;split at f
     · rename_i R;cases f;subst R;refine .inr ⟨L,by rw [Emb.put_ne _ _ A];exact hE,?_⟩;exact O (ox:=.cells t k older true) rfl (by simp [nOf]) rfl ⟨C,e,I,g3,g4⟩
     · rename_i R;rcases r.obj0 x ox f with⟨u1,u2⟩ | ⟨g,k1,o⟩
       ·exact .inl ⟨u1,by rw [Emb.put_ne _ _ A];exact u2⟩
       refine .inr ⟨g,by rw [Emb.put_ne _ _ A];exact k1,?_⟩;by_cases d:Own ox g L.blk
       ·exact O (z f k1 R d).2.1 (z f k1 R d).2.2 d o
       ·exact(o.mono K).heap fun i G=>by simp only [cG];rw [tL (fun e:L.blk=i=>d (by rw [e];exact G))]
 · intro x y ox U g Ly f q j D d J;rw [cQ,jE]at f q;have B:∀ {y U Ly},y≠h.nb→ (h.set b (.cells t k older true)).look y=some U→E y=some Ly→Own U Ly L.blk→y∈b::older∧jD U=true∧Ly.sh+nOf U≤L.sh+off+ (m+Q.length) :=by
    intro y U Ly Y q D d;rw [aY]at q;split at q
    · rename_i W;cases q;subst W;rw [hE]at D;cases D;exact⟨cN ..,rfl,by simp [nOf];omega⟩
    · rename_i W;obtain⟨S,q2,q3⟩ :=z q D W d;exact⟨cJ _ S,q2,by omega⟩
   by_cases H:x=h.nb
   · subst H;have Y:y≠h.nb:=fun e=>J e.symm;rw [if_pos rfl]at f;cases f;rw [if_neg Y]at q;rw [Emb.put_same]at j;cases j;rw [Emb.put_ne _ _ Y]at D;obtain⟨i,X,V⟩ :=d;obtain rfl:L.blk=i:=X;exact .inl (B Y q D V)
   · rw [if_neg H]at f;rw [Emb.put_ne _ _ H]at j;by_cases F:y=h.nb
     · subst F;rw [if_pos rfl]at q;cases q;rw [Emb.put_same]at D;cases D;obtain⟨i,X,V⟩ :=d;obtain rfl:L.blk=i:=V;exact .inr (B H f j X)
     · rw [if_neg F]at q;rw [Emb.put_ne _ _ F]at D;rw [aY]at f q;by_cases h3:x=b
       · subst h3;have Y:y≠x:=fun e=>J e.symm;rw [if_pos rfl]at f;cases f;rw [if_neg Y]at q;rw [hE]at j;cases j;obtain⟨i,X,V⟩ :=d;obtain rfl:L.blk=i:=X;exact .inl (z q D Y V)
       · rw [if_neg h3]at f;by_cases h4:y=b
         · subst h4;rw [if_pos rfl]at q;cases q;rw [hE]at D;cases D;obtain⟨i,X,V⟩ :=d;obtain rfl:L.blk=i:=V;exact .inr (z f j h3 X)
         · rw [if_neg h4]at q;exact r.kin x y ox U g Ly f q j D d J
 · intro x A;rw [oM,jE]at A;rw [Emb.put_ne _ _ (by omega)];exact r.fresh x (by omega)
 · intro x ox g f j i G;show E.imm i=none;rw [cQ,jE]at f;by_cases H:x=h.nb
   · subst H;rw [if_pos rfl]at f;cases f;rw [Emb.put_same]at j;cases j;exact r.apart b _ L hb hE i G
   · rw [if_neg H,aY]at f;rw [Emb.put_ne _ _ H]at j;by_cases F:x=b
     ·subst F;rw [if_pos rfl]at f;cases f;exact r.apart x _ g hb j i G
     ·rw [if_neg F]at f;exact r.apart x ox g f j i G
 · intro i G hno;simp only [cG];rw [tL (hno b _ L hb hE)]
 · intro x ox g f j i G hlt;rw [cQ,jE]at f;by_cases H:x=h.nb
   · subst H;rw [if_pos rfl]at f;cases f;rw [Emb.put_same]at j;cases j;exact⟨b,_,L,hb,hE,G⟩
   · rw [if_neg H,aY]at f;rw [Emb.put_ne _ _ H]at j;by_cases F:x=b
     ·subst F;rw [if_pos rfl]at f;cases f;rw [hE]at j;cases j;exact⟨x,_,L,hb,hE,G⟩
     ·rw [if_neg F]at f;exact⟨x,ox,g,f,j,G⟩
theorem Ext.drawn {E':Emb}(x:Ext E h w E' h' w')(d:Nat) :Ext E h w E' h' {w' with drawn:=d}:=
 ⟨x.le,x.size,x.keep,x.own,x.nb,x.os,x.tape,x.output,x.low,x.froz,x.immo,x.keys⟩
theorem aCF {sz len cap:Nat}{a:Addr}{os:List Value}(h:∀w1:World,w1.heap=w.heap→ (loadCells a (len*sz)).run P w1= .ok ⟨os⟩ w1) :
  ∀w1:World,w1.heap=w.heap→ (Builtin.firstCells sz len (.slice (some a) len cap)).run P w1= .ok ⟨os⟩ w1:=fun w1 b=>by
 simp only [Builtin.firstCells];exact h w1 b
theorem old_cells (r:Rel E h w.heap){b off m:Nat}{old:List AV}(hl:h.loadN b off m=some old){L:Loc}(hE:E b=some L){c a:Nat}(g:a≠0→c=L.sh+off)(i:a=0→m=0) :
  ∃e,(∀d:World,d.heap=w.heap→ (loadCells ⟨L.blk,c,none⟩ m).run P d= .ok ⟨e⟩ d) ∧VRs E old e∧e.length=m:=by
 by_cases hc:a=0
 · have hm:=i hc;subst hm;have:old= [] :=by
    unfold Hp.loadN at hl;split at hl
    ·simp [getCells]at hl;exact hl
    ·cases hl
   subst this;exact⟨[],fun d _=>by simp [loadCells,loadCellsFrom],VRs.nil E,rfl⟩
 · have:=g hc;subst this;obtain⟨e,f,l,k⟩ :=wH r hl hE;exact⟨e,fun d j=>f P d j,l,k⟩
theorem aSE {b off m:Nat}{old:List AV}(hl:h.loadN b off m=some old){t:T AV}{n:Nat}{k:List Nat}{s:Bool}(hb:h.look b=some (.cells t n k s)) :old.length=m∧∀j,j<m→t.at (off+j) =old[j]?:=by
 unfold Hp.loadN at hl;rw [hb]at hl;exact nM hl
theorem Rel.supersede (r:Rel E h w.heap){b k:Nat}{t:T AV}{older:List Nat}(hb:h.look b=some (.cells t k older false)) :
  Rel E (h.set b (.cells t k older true)) w.heap∧Ext E h w E (h.set b (.cells t k older true)) w:=by
 have d:∀ {x a},(h.set b (.cells t k older true)).look x=some a→∃c,h.look x=some c∧ (∀E H L,OR E H L c→OR E H L a) ∧bS a=bS c∧nOf a=nOf c∧ (jD c=true→jD a=true) ∧kH c=kH a∧∀L i,Own a L i→Own c L i:=by
  intro x a e;rw [aY]at e;split at e
  ·rename_i v;cases e;subst v;exact⟨_,hb,fun _ _ _ h=>h,rfl,rfl,fun _=>rfl,rfl,fun _ _ h=>h⟩
  ·exact⟨a,e,fun _ _ _ h=>h,rfl,rfl,fun h=>h,rfl,fun _ _ h=>h⟩
 refine⟨⟨?_,?_,fun x v=>r.fresh x v,r.imm,?_,fun x a e=>by obtain⟨c,f,_⟩ :=d e;exact r.keys x c f⟩,⟨Emb.le.refl E,le_refl _,fun _ _ _=>rfl,?_,le_refl _,rfl,rfl,rfl,fun _ _=>rfl,fun _ _=>rfl,fun _ _ e _=>.inl e,fun x a e _=>by obtain⟨c,f,_⟩ :=d e;exact⟨c,f⟩⟩⟩
 · intro x a e;obtain⟨c,f,Q,_,_,_,J,_⟩ :=d e;rcases r.obj0 x c f with⟨M,N⟩ | ⟨L,D,W⟩
   ·exact .inl ⟨by rw [←J];exact M,N⟩
   exact .inr ⟨L,D,Q _ _ _ W⟩
 · intro x y a oy o U g I m S q z;obtain⟨j,n,_,Z,C,O,_,l⟩ :=d g;obtain⟨F,R,_,G,B,Y,_,X⟩ :=d I;obtain⟨i,V,K⟩ :=q;rcases r.kin x y j F o U n R m S ⟨i,l _ _ V,X _ _ K⟩ z with⟨u,p,s⟩ | ⟨u,p,s⟩
   ·exact .inl ⟨by rw [Z];exact u,Y p,by rw [C,B];exact s⟩
   ·exact .inr ⟨by rw [G];exact u,O p,by rw [C,B];exact s⟩
 · intro x a o g m i A;obtain⟨j,n,_,_,_,_,_,l⟩ :=d g;exact r.apart x j o n m i (l _ _ A)
 · intro x a o g m i A _;obtain⟨j,n,_,_,_,_,_,l⟩ :=d g;exact⟨x,j,o,n,m,l _ _ A⟩
set_option maxHeartbeats 1000000 in
theorem aappend_sound (r : Rel E h w.heap){j:Array TypeId}{ty:TypeId}{s x v:AV}{cs cx:Value}(g:aappend P h j s x=some (v,h'))(hs:VR E s cs)(hx:VR E x cx) :
  ∃cv w' O,(Builtin.append_ j ty #[cs,cx]).run P w= .ok cv w'∧VR O v cv∧Rel O h' w'.heap∧Ext E h w O h' w':=by
 unfold aappend at g;split at g
 ·cases g
 · rename_i st A;split at g
   · rename_i e Y;split at g
     · rename_i sz inf z B F hz;split at g
       ·cases g
       · rename_i vs n hadd;cases hc: (beq z.cells.length sz&&ble sz 40&&ble inf.bytes 1000&&ble 1 inf.bytes&&ble 1 sz&&dD vs&&ble n 1000000)with
         |false=>rw [hc]at g;cases g
         | true =>
          rw [hc]at g;simp only [cond]at g;simp only [iY,bM,cM,decide_eq_true_eq]at hc;obtain⟨⟨⟨⟨⟨⟨hzl,hs40⟩,V⟩,hb1⟩,hs1⟩,K⟩,hn6⟩ :=hc;obtain⟨at1,S,o,hA,y,hul⟩ :=aLl (P:=P) (w:=w) r hadd hx F V hs1;split at g
          · -- the nil slice
            simp only [VR]at hs;subst hs;cases D:beq n 0 with
            | true=>
             rw [D]at g;simp only [cond]at g;cases g;have:=fN D;subst this;have W:S= [] :=zq35.1 (by omega);subst W;refine⟨.slice none 0 0,w,E,?_,by simp [VR],r,Ext.refl _ _ _⟩;exact run_append_room (base:=none) (len:=0) (cap:=0) (w':=w) hA A o Y B (by omega) rfl
            | false=>
             rw [D]at g;simp only [cond]at g;cases g;have hn0:n≠0:=fun e=>by subst e;cases D
             obtain⟨nc,l,d,k1,k2,k3⟩ :=run_append_grow (ty:=ty) (base:=none) (len:=0) (cap:=0) (os:=[]) hA hz F hb1 V A o Y B (by omega) (by omega) (fun w1 _=>by simp [Builtin.firstCells]);simp only [eS,List.nil_append]at k1 k2 k3;obtain⟨R,M⟩ :=wK r y e l;refine⟨_,_,_,k3,qW w h _ n n sz nc false (le_refl _) k1 (fun e=>by cases e) ?_,R,M.drawn d⟩;rw [tI,k2,hul,hzl,←add_mul];exact mul_le_mul_right _ (by omega)
          · rename_i b off len cap esz exact;cases hc: (beq esz sz&&ble len 1000000&&ble cap 1000000)with
            |false=>rw [hc]at g;cases g
            | true =>
             rw [hc]at g;simp only [cond]at g;simp only [iY,bM,cM,decide_eq_true_eq]at hc;obtain⟨⟨rfl,hlen6⟩,hcap6⟩ :=hc;simp only [VR]at hs;obtain⟨L,q,c,hE,rfl,g1,g2,g3,g4,g5⟩ :=hs;cases hr:ble (len+n) cap with
             | true =>
              rw [hr]at g;simp only [cond]at g;have p:=Nat.le_of_ble_eq_true hr;cases D:beq n 0 with
              | true=>
               rw [D]at g;simp only at g;cases g;have:=fN D;subst this;have W:S= [] :=zq35.1 (by omega);subst W;refine⟨.slice (some ⟨L.blk,q,none⟩) len c,w,E,?_,?_,r,Ext.refl _ _ _⟩
               ·exact run_append_room (base:=some ⟨L.blk,q,none⟩) (len:=len) (cap:=c) (w':=w) hA A o Y B (by omega) rfl
               ·simp only [VR];exact⟨L,q,c,hE,rfl,g1,g2,g3,g4,g5⟩
              | false =>
               rw [D]at g;simp only at g;have hn0:n≠0:=fun e=>by subst e;cases D
               split at g
               · rename_i h2 u;cases g;unfold aHt at u;split at u
                 · rename_i t k older hb;cases u;have H:=g4 (by omega);subst H;have hvl:=y.length;have hm: (len+n) *esz≤c*esz:=mul_le_mul_right _ (by omega);rw [add_mul]at hm;obtain⟨w2,R,M,q3⟩ :=r.write (off:=off+len*esz) hb hE y K (max k (off+len*esz+vs.length)) (Nat.le_max_left _ _) (fun _=>Nat.le_max_right _ _) (by omega);refine⟨.slice (some ⟨L.blk,L.sh+off,none⟩) (len+n) c,w2,E,?_,?_,M,q3⟩
                   · refine run_append_room (base:=some ⟨L.blk,L.sh+off,none⟩) (len:=len) (cap:=c) (w':=w2) hA A o Y B (by omega) ?_;simp only [fX];rw [add_assoc];exact R P
                   ·simp only [VR];exact⟨L,L.sh+off,c,hE,rfl,by omega,g2,g3,fun _=>rfl,g5⟩
                 ·cases u
               ·cases g
             | false =>
              rw [hr]at g;simp only [cond]at g;have hnroom:¬len+n≤cap:=fun e=>by rw [Nat.ble_eq_true_of_le e]at hr;cases hr
              have hn0:n≠0:=fun e=>by subst e;omega
              split at g
              ·cases g
              · rename_i old Q;have hc0:c=0→len*esz=0:=fun e=>by rw [show len=0 by omega,Nat.zero_mul]
                obtain⟨os,o1,o2,o3⟩ :=old_cells (P:=P) r Q hE g4 hc0
                have G:∀ (T':T AV) (N:Nat) (J:List Nat) (X:Hp),X.nb=h.nb→Rel E X w.heap→Ext E h w E X w→¬len+n≤c →
                  (∀i a,T'.at i=some a→i<N∧ (old++vs)[i]?=some a) →
                  ∃cv w' O,(Builtin.append_ j ty #[.slice (some ⟨L.blk,q,none⟩) len c,cx]).run P w= .ok cv w'∧VR O (.slice h.nb 0 (len+n) (len+n) esz false) cv∧Rel O (X.new (.cells T' N J false)) w'.heap∧Ext E h w O (X.new (.cells T' N J false)) w':=by
                 intro T' N J X hnb r1 x1 hno hT;obtain⟨nc,l,d,k1,k2,k3⟩ :=run_append_grow (ty:=ty) (base:=some ⟨L.blk,q,none⟩) (len:=len) (cap:=c) (os:=os) hA hz F hb1 V A o Y B hno (by omega) (aCF o1)
                 obtain⟨R,M⟩ :=r1.new (.cells T' N J false) (.cells ⟨os++S++l⟩ e) (os++S++l).length (fun O H' hle _ hH=> ⟨⟨os++S++l⟩,e,hH,rfl,fun i a f=>by
                  obtain⟨p1,Z⟩ :=hT i a f;obtain⟨v,p3,p4⟩ := (o2.append y).get i a Z;refine⟨p1,v,?_,p4.mono hle⟩;have hlt:= (zq0.1 p3).1;simp only [eS];rw [show(⟨os++S++l⟩ :Array Value) = (os++S++l).toArray from rfl,List.getElem?_toArray,hQ hlt];exact p3⟩)
                 rw [hnb]at R M;refine⟨_,_,_,k3,?_,R,x1.trans (M.drawn d)⟩;refine qW w h _ (len+n) (len+n) esz nc false (le_refl _) k1 (fun e=>by cases e) ?_;rw [tI,tI,k2,hul,hzl,o3,←add_mul,←add_mul];exact mul_le_mul_right _ (by omega)
                cases exact with
                | true=>
                 simp only at g;cases g;have hce:=g3 rfl
                 exact G _ _ _ h rfl r (Ext.refl _ _ _) (by omega) (fun i a f=>by
                  rw [bC]at f;split at f
                  ·rename_i U;exact⟨U,f⟩
                  ·cases f)
                | false =>
                 simp only at g;split at g
                 · rename_i t k older hb;cases hk:ble k (off+len*esz)with
                   |false=>rw [hk]at g;cases g
                   | true =>
                    rw [hk]at g;simp only at g;cases g;have hk':=Nat.le_of_ble_eq_true hk;obtain⟨ol,og⟩ :=aSE Q hb;have hvl:=y.length;obtain⟨Lb,e1,C,ee,e2,e3,e4⟩ :=r.obj _ _ hb;rw [hE]at e1;cases e1;have hT :∀i a,(bif beq off 0 then putCells t (len*esz) vs else putCells .leaf 0 (old++vs)).at i=some a→i<len*esz+vs.length∧ (if i<len*esz then t.at (off+i) =some a else vs[i-len*esz]?=some a) :=by
                     intro i a f;rw [bM]at f;by_cases D:off=0
                     · subst D;simp only [decide_true,cond]at f;rw [wF]at f;split at f
                       ·rename_i U;exact⟨U.2,by rw [if_neg (by omega)];exact f⟩
                       · rename_i U;have:= (e4 i a f).1;exact⟨by omega,by rw [if_pos (by omega)];simpa using f⟩
                     · simp only [D,decide_false,cond]at f;rw [bC]at f;split at f
                       · rename_i U;rw [tI,ol]at U;refine⟨U,?_⟩;split
                         · rename_i I;rw [hQ (by omega)]at f;rw [og i I];exact f
                         · rename_i I;rw [jA (by omega),ol]at f;exact f
                       ·cases f
                    have hT2:∀i a,(bif beq off 0 then putCells t (len*esz) vs else putCells .leaf 0 (old++vs)).at i=some a→i<old.length+vs.length∧ (old++vs)[i]?=some a:=by
                     intro i a f;obtain⟨p1,Z⟩ :=hT i a f;refine⟨by omega,?_⟩;split at Z
                     · rename_i I;rw [hQ (by omega),←og i I];exact Z
                     · rename_i I;rw [jA (by omega),ol];exact Z
                    by_cases p:len+n≤c
                    · have H:=g4 (by omega);subst H;have hm: (len+n) *esz≤c*esz:=mul_le_mul_right _ (by omega);rw [add_mul]at hm;obtain⟨w2,R,M,q3⟩ :=r.inplace (off:=off) (m:=len*esz) hb hE y K hk' (by omega) hT (L.sh+off+len*esz) rfl;refine⟨.slice (some ⟨L.blk,L.sh+off,none⟩) (len+n) c,w2,E.put h.nb ⟨L.blk,L.sh+off,L.sz⟩,?_,?_,?_,?_⟩
                      · refine run_append_room (base:=some ⟨L.blk,L.sh+off,none⟩) (len:=len) (cap:=c) (w':=w2) hA A o Y B p ?_;simp only [fX];exact R P
                      · simp only [VR];exact⟨_,L.sh+off,c,Emb.put_same _ _ _,rfl,le_refl _,p,(fun e=>by cases e),fun _=>rfl,g5⟩
                      ·rw [ol];exact M
                      ·rw [ol];exact q3
                    · obtain⟨r1,x1⟩ :=r.supersede hb;exact G _ _ _ _ rfl r1 x1 p hT2
                 ·cases g
          ·cases g
     ·cases g
   ·cases g
end
section
variable {P :Program} {E:Emb} {h h':Hp} {w w':World} {tm:T AV} {ρ:Operand→Value}
theorem dC {x:Operand}{k:AV→Option AOut}{o:AOut}(h:vS tm x k=some o) :∃a,bO tm x=some a∧k a=some o:=by
 unfold vS at h;split at h
 ·rename_i v b;exact⟨v,b,h⟩
 ·cases h
theorem gV {x y:Operand}{k:AV→AV→Option AOut}{o:AOut}(h:ev2 tm x y k=some o) :∃a b,bO tm x=some a∧bO tm y=some b∧k a b=some o:=by
 unfold ev2 at h;split at h
 · rename_i v c;split at h
   ·rename_i u d;exact⟨v,u,c,d,h⟩
   ·cases h
 ·cases h
theorem dU {v:Option AV}{o:AOut}(b:val v h=some o) :∃a,v=some a∧o= .val a h:=by
 unfold val at b;split at b
 ·cases b;exact⟨_,rfl,rfl⟩
 ·cases b
theorem tR {v:Option Hp}{o:AOut}(a:aAj v=some o) :∃h',v=some h'∧o= .val .undef h':=by
 unfold aAj at a;split at a
 ·cases a;exact⟨_,rfl,rfl⟩
 ·cases a
theorem aHC {v:Option (AV×Hp)}{o:AOut}(b:aAE v=some o) :∃a h',v=some (a,h') ∧o= .val a h':=by
 unfold aAE at b;split at b
 ·cases b;exact⟨_,_,rfl,rfl⟩
 ·cases b
theorem oZ {f:Nat}{a:Array Value}(hc:eY P f=true) : (callFunc f a).run P w= .ok (.enter f a) w:=by
 unfold eY at hc;split at hc
 · rename_i fn b;simp only [cM,Bool.not_eq_true']at hc;have c:fn.body.isNone=false:=by cases hb:fn.body<;>simp_all
   simp only [callFunc,Sem.run_bind,run_program,Result.andThen_ok,b,hc.2,sF,if_false,c,Sem.run_pure]
 ·cases hc
theorem aOa {t:TypeId}{b:String}{f:Nat}{v:Value}(hm:pV P t b=some f)(k:Nat) : (method (k+1) t v b).run P w= .ok (f,v) w:=by
 unfold pV at hm;split at hm
 ·cases hm
 · rename_i i n;split at hm
   ·cases hm
   · rename_i m a;split at hm
     · rename_i l c g;cases hm;simp [method,dH n,a,l,follow,c,receiverAt,aB g,Place.get]
     ·cases hm
     · rename_i d j l c g;cases hm;have:∀e,d≠ .pointer e:=fun e h=>by subst h;exact j e rfl
       simp only [method,Sem.run_bind,dH n,Result.andThen_ok,a,l,follow,Sem.run_pure,c,receiverAt,aB g];cases d<;>first|exact absurd rfl (this _) |simp [Place.get]
     ·cases hm
theorem aBl {t:TypeId}{b:String}{f:Nat}{v:Value}(hm:pV P t b=some f)(k:Nat) : (nilAhead (k+1) t v b).run P w= .ok (some false) w:=by
 unfold pV at hm;split at hm
 ·cases hm
 · rename_i i n;split at hm
   ·cases hm
   · rename_i m a;split at hm
     · rename_i j c l;cases hm;simp [nilAhead,dH n,a,j,followBlind,c]
     ·cases hm
     · rename_i d g j c l;cases hm;have:∀e,d≠ .pointer e:=fun e h=>by subst h;exact g e rfl
       simp only [nilAhead,Sem.run_bind,dH n,Result.andThen_ok,a,j,followBlind,Sem.run_pure,c,aB l];cases d<;>first|exact absurd rfl (this _) |simp
     ·cases hm
theorem aHD (P:Program) :∃k,P.types.size+Made.depth=k+1:=by
 have:0<Made.depth:=by decide
 exact⟨P.types.size+ (Made.depth-1),by omega⟩
theorem aEZ {t:TypeId}{b:String}{f:Nat}{v:Value}{a:Array Value}(hm:pV P t b=some f)(hc:eY P f=true) :
  (callMethod (.iface t v) b a).run P w= .ok (.enter f (#[v] ++a)) w:=by
 obtain⟨k,hk⟩ :=aHD P;simp only [callMethod,Sem.run_bind,run_program,Result.andThen_ok,hk,aOa hm,oZ hc]
theorem wN {f:Nat}{a:List AV}{o:AOut}(h:aAD P f a=some o) :eY P f=true∧o= .call (.enter f a) :=by
 unfold aAD at h;cases hc:eY P f with
 |false=>rw [hc]at h;cases h
 |true=>rw [hc]at h;simp only [cond]at h;cases h;exact⟨rfl,rfl⟩
theorem aAm {g:AV}{d:Value}{b:String}{a:List AV}{cargs:List Value}{o:AOut}(c:aD8 P g b a=some o)(hr:VR E g d)(j:VRs E a cargs) :
  ∃f h e,o= .call (.enter f h) ∧VRs E h e∧ (callMethod d b ⟨cargs⟩).run P w= .ok (.enter f ⟨e⟩) w:=by
 unfold aD8 at c;split at c
 · rename_i t v;split at c
   · rename_i f hm;obtain⟨hc,rfl⟩ :=wN c;simp only [VR]at hr;obtain⟨u,rfl,i⟩ :=hr;refine⟨f,_,u::cargs,rfl,VRs.cons i j,?_⟩;rw [aEZ hm hc];simp
   ·cases c
 ·cases c
theorem aBm (r:Rel E h w.heap){A:AV}{k:Value}{args:List AV}{cargs:List Value}{o:AOut}(c:vZ P A args=some o)(i:VR E A k)(p:VRs E args cargs) :
  ∃d,(Deferred.ofValue k ⟨cargs⟩).run P w= .ok d w∧Out P E h w ((invoke d.target d.args).run P w) o:=by
 unfold vZ at c;split at c
 · rename_i f first I
   obtain⟨hc,rfl⟩ :=wN c;simp only [VR]at i;obtain⟨a,b,rfl,F,G⟩ :=i;refine⟨{target:=.fn (.func f) ⟨b⟩,args:= ⟨a⟩ ++ ⟨cargs⟩},by simp [Deferred.ofValue],?_⟩;refine⟨a++cargs++b,?_,(F.append p).append G⟩;simp only [invoke,oZ hc];congr 2;apply Array.ext';simp
 · rename_i l;cases c;simp only [VR]at i;obtain⟨L,D,rfl⟩ :=i;refine⟨{target:=.fn (.yield L.blk) #[],args:= #[] ++ ⟨cargs⟩},by simp [Deferred.ofValue],?_⟩;refine⟨cargs,L,D,p,?_⟩;simp only [invoke];congr 2;apply Array.ext';simp
 · rename_i m g;simp only [VR]at i;obtain⟨u,rfl,j⟩ :=i;obtain⟨f,J,s,rfl,C,H⟩ :=aAm (w:=w) c j p;refine⟨{target:=.fn (.method m) #[],args:= #[u] ++ ⟨cargs⟩},by simp [Deferred.ofValue],?_⟩;refine⟨s,?_,C⟩;have v: (#[u] ++ ⟨cargs⟩ :Array Value)[0]?=some u:=by simp
   have x: (#[u] ++ ⟨cargs⟩ :Array Value).extract 1 (#[u] ++ ⟨cargs⟩ :Array Value).size= ⟨cargs⟩ :=by
    apply Array.ext';simp
   simp only [invoke,v,x,H]
 · rename_i t f B g
   have n:∀ {o},aAD P f (g::args) =some o→ (∀u:Value,(receiverVia t u #[] B).run P w= .ok u w) →
     ∃d,(Deferred.ofValue k ⟨cargs⟩).run P w= .ok d w∧Out P E h w ((invoke d.target d.args).run P w) o:=by
    intro o c q;obtain⟨hc,rfl⟩ :=wN c;simp only [VR]at i;obtain⟨u,rfl,j⟩ :=i;refine⟨{target:=.fn (.via t #[] f B) #[],args:= #[u] ++ ⟨cargs⟩},by simp [Deferred.ofValue],?_⟩;refine⟨u::cargs,?_,VRs.cons j p⟩;have v: (#[u] ++ ⟨cargs⟩ :Array Value)[0]?=some u:=by simp
    have x: (#[u] ++ ⟨cargs⟩ :Array Value).extract 1 (#[u] ++ ⟨cargs⟩ :Array Value).size= ⟨cargs⟩ :=by
     apply Array.ext';simp
    simp only [invoke,v,x,Sem.run_bind,q u,Result.andThen_ok,oZ hc];refine congrArg (fun z=>Result.ok (Next.enter f z) w) ?_;apply Array.ext';simp
   split at c
   · rename_i e j;exact n c (fun u=>by simp [receiverVia,follow,receiverAt,aB j,Place.get])
   ·cases c
   · rename_i d y j
     exact n c (fun u=>by
      have:∀e,d≠ .pointer e:=fun e h=>by subst h;exact y e rfl
      simp only [receiverVia,Array.toList_empty,follow,Sem.run_bind,Sem.run_pure,Result.andThen_ok,receiverAt,aB j];cases d<;>first|exact absurd rfl (this _) |simp [Place.get])
   ·cases c
 ·cases c
theorem tU {s:TypeId}{i o:Nat}(a:aEQ P s i=some o)(b k:Nat) : (Instr.fieldAt s (.pointer (some ⟨b,k,none⟩)) i).run P w= .ok (.pointer (some ⟨b,k+o,none⟩)) w:=by
 unfold aEQ at a;split at a
 · rename_i fs c;split at a
   · rename_i f d;split at a
     · rename_i n e;cases a;simp [Instr.fieldAt,aB c,d,Instr.sureAddr,fieldPlace,cD e,fX]
     ·cases a
   ·cases a
 ·cases a
theorem lF {i:AV}{a:Value}{len k:Nat}(hb:iQ i len=some k)(b:VR E i a) :∃kk,a= .int kk (k:Int) ∧k<len:=by
 unfold iQ at hb;split at hb
 · split at hb
   · rename_i c;cases hb;simp only [VR]at b;exact⟨_,by rw [b];congr 1;omega,by omega⟩
   ·cases hb
 ·cases hb
theorem aE0 {t:TypeId}{d:TypeDesc}{s off:Nat}{b:List AV}{cs:Array Value}{v:AV}(f:P.underlying t=some d)(h:aX P t=some s)(g:VRs E b cs.toList)
  (hp: (bif isAggD d then some (AV.agg ((b.drop off).take s))else b[off]?) =some v) :∃cv,(part t cs off).run P w= .ok cv w∧VR E v cv:=by
 cases a:isAggD d with
 | true=>
  rw [a]at hp;simp only [cond]at hp;cases hp;refine⟨.agg (cs.extract off (off+s)),by simp [part,qV f,a,cD h],?_⟩;simp only [VR];refine⟨(cs.extract off (off+s)).toList,rfl,?_⟩;have:= (g.drop off).take s;have e: (cs.extract off (off+s)).toList= (cs.toList.drop off).take s:=by simp
  rw [e];exact this
 | false=>
  rw [a]at hp;simp only [cond]at hp;obtain⟨cv,j,i⟩ :=g.get _ _ hp;have c:cs[off]?=some cv:=by simpa using j
  exact⟨cv,by simp [part,qV f,a,c],i⟩
theorem aBn {q b:TypeId}{ok:Bool}{a v:AV}{p:Value}(c:wA P b ok a=some v)(i:VR E a p) :
  ∃cv,(Instr.typeAssert p q b ok).run P w= .ok cv w∧VR E v cv:=by
 unfold wA at c;split at c
 ·cases c
 ·cases c
 · rename_i d n j;have h:∀ms,d≠ .interface ms:=fun ms e=>n ms (by rw [e]);split at c
   · cases ok with
     |false=>cases c
     | true=>
      simp only [cond]at c;split at c
      · rename_i z hz;cases c;obtain⟨m,k,l⟩ :=iK hz;simp only [VR]at i;subst i;refine⟨.tuple #[m,.bool false],?_,by simp only [VR];exact⟨_,rfl,VRs.cons (l E) (VRs.cons (by simp [VR]) (VRs.nil E))⟩⟩;cases d<;>first|exact absurd rfl (h _) |simp [Instr.typeAssert,aB j,k]
      ·cases c
   · rename_i t u;simp only [VR]at i;obtain⟨o,rfl,g⟩ :=i;rw [bM]at c;by_cases f:t=b
     · simp only [f,decide_true,cond]at c;cases ok with
       | true=>
        cases c;refine⟨.tuple #[o,.bool true],?_,by simp only [VR];exact⟨_,rfl,VRs.cons g (VRs.cons (by simp [VR]) (VRs.nil E))⟩⟩;cases d<;>first|exact absurd rfl (h _) |simp [Instr.typeAssert,aB j,f]
       | false=>
        cases c;refine⟨o,?_,g⟩;cases d<;>first|exact absurd rfl (h _) |simp [Instr.typeAssert,aB j,f]
     · simp only [f,decide_false,cond]at c;cases ok with
       |false=>cases c
       | true=>
        simp only at c;split at c
        · rename_i z hz;cases c;obtain⟨m,k,l⟩ :=iK hz;refine⟨.tuple #[m,.bool false],?_,by simp only [VR];exact⟨_,rfl,VRs.cons (l E) (VRs.cons (by simp [VR]) (VRs.nil E))⟩⟩;cases d<;>first|exact absurd rfl (h _) |simp [Instr.typeAssert,aB j,f,k]
        ·cases c
   ·cases c
theorem aOb (r:Rel E h w.heap){a:Array TypeId}{ty t:TypeId}{x v:AV}{i:Value}(f:a[0]?=some t)(b:aZx P h t x=some v)(e:VR E x i) :
  ∃cv,(Builtin.len_ a ty #[i]).run P w= .ok cv w∧VR E v cv:=by
 unfold aZx at b;split at b
 · rename_i d;cases b;simp only [VR]at e;subst e;exact⟨_,by simp [Builtin.len_,f,aB d,mP];rfl,by simp [VR,goInt]⟩
 · rename_i d;cases b;exact⟨_,by simp [Builtin.len_,f,aB d];rfl,by simp [VR,goInt]⟩
 · rename_i d;cases b;simp only [VR]at e;obtain⟨L,l,o,_,rfl,_⟩ :=e;exact⟨_,by simp [Builtin.len_,f,aB d];rfl,by simp [VR,goInt]⟩
 · rename_i d;cases b;simp only [VR]at e;subst e;exact⟨_,by simp [Builtin.len_,f,aB d];rfl,by simp [VR,goInt]⟩
 · rename_i d;cases b;simp only [VR]at e;subst e;exact⟨_,by simp [Builtin.len_,f,aB d];rfl,by simp [VR,goInt]⟩
 · rename_i d;split at b
   · rename_i m p c hm;cases b;simp only [VR]at e;obtain⟨L,hE,rfl⟩ :=e;obtain⟨q,g,j,k,n⟩ :=r.obj _ _ hm;rw [hE]at g;cases g;have:=n.length;refine⟨.int .i64 j.size,by simp [Builtin.len_,f,aB d,eN k,goInt],?_⟩;simp only [VR,Array.length_toList]at this ⊢;rw [this]
   ·cases b
 ·cases b
theorem aOc {a:Array TypeId}{ty t:TypeId}{x v:AV}{f:Value}(e:a[0]?=some t)(b:bEt P t x=some v)(c:VR E x f) :
  ∃cv,(Builtin.cap_ a ty #[f]).run P w= .ok cv w∧VR E v cv:=by
 unfold bEt at b;split at b
 · rename_i d;cases b;simp only [VR]at c;obtain⟨L,g,i,_,rfl,_,_,h,_⟩ :=c;exact⟨_,by simp [Builtin.cap_,e,aB d];rfl,by simp [VR,goInt,h]⟩
 · rename_i d;cases b;simp only [VR]at c;subst c;exact⟨_,by simp [Builtin.cap_,e,aB d];rfl,by simp [VR,goInt]⟩
 ·cases b
theorem aE1 (r:Rel E h w.heap){b:Builtin}{c:Array TypeId}{ty:TypeId}{consts:Array Bool}{j:List AV}{cargs:List Value}{o:AOut}(d:eZ P h b c j=some o)(l:VRs E j cargs) :
  Out P E h w ((builtin b c ty consts ⟨cargs⟩).run P w) o∧ ((b= .len∨b= .cap∨b= .max∨b= .min) →aSB P E h w ((builtin b c ty consts ⟨cargs⟩).run P w) o) :=by
 unfold eZ at d;split at d
 · rename_i x;obtain⟨z,q,rfl,g,f⟩ :=l.cons_inv;rw [f.nil_inv];split at d
   · rename_i t A;split at d
     · rename_i v n;cases d;obtain⟨cv,m,p⟩ :=aOb (ty:=ty) r A n g;exact aV r m p
     ·cases d
   ·cases d
 · rename_i x;obtain⟨z,q,rfl,g,f⟩ :=l.cons_inv;rw [f.nil_inv];split at d
   · rename_i t A;split at d
     · rename_i v n;cases d;obtain⟨cv,m,p⟩ :=aOc (ty:=ty) (w:=w) A n g;exact aV r m p
     ·cases d
   ·cases d
 · rename_i s x;obtain⟨B,q,rfl,i,f⟩ :=l.cons_inv;obtain⟨z,y,rfl,g,e⟩ :=f.cons_inv;rw [e.nil_inv];split at d
   · rename_i v I n;cases d;obtain⟨cv,H,J,m,p,D,F⟩ :=aappend_sound (ty:=ty) r n i g;exact nq (by simp) (kQ m p D F)
   ·cases d
 · rename_i k a C b;cases d;obtain⟨B,q,rfl,i,f⟩ :=l.cons_inv;obtain⟨z,y,rfl,g,e⟩ :=f.cons_inv;rw [e.nil_inv];simp only [VR]at i g;subst i g;exact aV r (cv:=.int k (if b>a then b else a)) (by simp [Builtin.max_,Builtin.max2]) (by simp [VR])
 · rename_i k a C b;cases d;obtain⟨B,q,rfl,i,f⟩ :=l.cons_inv;obtain⟨z,y,rfl,g,e⟩ :=f.cons_inv;rw [e.nil_inv];simp only [VR]at i g;subst i g;exact aV r (cv:=.int k (if b<a then b else a)) (by simp [Builtin.min_,Builtin.min2]) (by simp [VR])
 · rename_i t v;cases d;obtain⟨B,q,rfl,i,f⟩ :=l.cons_inv;rw [f.nil_inv];simp only [VR]at i;obtain⟨u,rfl,G⟩ :=i;exact nq (by simp) ⟨.iface t u,by simp [builtin,Instr.panic],by simp only [VR];exact⟨u,rfl,G⟩⟩
 · cases d;rw [l.nil_inv];exact nq (by simp) (by simp [Out,builtin])
 ·cases d
theorem lG {S:Operand→Prop}(hρ:Reads E tm ρ S){x:Option Operand}{a:Option AV}(hx:∀y,x=some y→S y)(h0:pU tm x=some a) :OVR E a (x.map ρ) :=by
 unfold pU at h0;split at h0
 ·cases h0;trivial
 · split at h0
   ·rename_i v hv;cases h0;exact hρ _ (hx _ rfl) _ hv
   ·cases h0
theorem aLm (r:Rel E h w.heap){c:Call}(hρ:Reads E tm ρ (· ∈c.operands)){ty:TypeId}{o:AOut}(h0:pW P h tm c=some o) :
  Out P E h w ((do let d ←resolve ρ c ty;invoke d.target d.args:Sem Next).run P w) o∧ ((∃b,c.callee= .builtin b∧ (b= .len∨b= .cap∨b= .max∨b= .min)) →aSB P E h w ((do let d ←resolve ρ c ty;invoke d.target d.args:Sem Next).run P w) o) :=by
 unfold pW at h0;split at h0
 ·cases h0
 · rename_i args hargs;have ha:=hρ.list (fun x hx=>by simp only [Call.operands,Array.mem_append];exact .inr (by simpa using hx)) hargs;have hm:c.args.map ρ= ⟨c.args.toList.map ρ⟩ :=by apply Array.ext';simp
   split at h0
   · rename_i f hf;split at h0
     · rename_i fv hfv;refine nq (fun⟨b,hb,_⟩ =>by rw [hf]at hb;cases hb) ?_;obtain⟨d,k1,k2⟩ :=aBm r h0 (hρ _ (by simp [Call.operands,hf]) _ hfv) ha;simp only [resolve,hf,hm,Sem.run_bind,k1,Result.andThen_ok];exact k2
     ·cases h0
   · rename_i rc name hf;split at h0
     · rename_i rv hrv;refine nq (fun⟨b,hb,_⟩ =>by rw [hf]at hb;cases hb) ?_;obtain⟨f,aS,cas,rfl,k1,k2⟩ :=aAm (w:=w) h0 (hρ _ (by simp [Call.operands,hf]) _ hrv) ha;refine⟨cas,?_,k1⟩;have e0: (#[ρ rc] ++ ⟨c.args.toList.map ρ⟩ :Array Value)[0]?=some (ρ rc) :=by simp
       have e1: (#[ρ rc] ++ ⟨c.args.toList.map ρ⟩ :Array Value).extract 1 (#[ρ rc] ++ ⟨c.args.toList.map ρ⟩ :Array Value).size= ⟨c.args.toList.map ρ⟩ :=by
        apply Array.ext';simp [aG5]
       simp only [resolve,hf,hm,Sem.run_bind,Sem.run_pure,Result.andThen_ok,invoke,e0,e1,k2]
     ·cases h0
   · rename_i b hf;simp only [resolve,hf,hm,Sem.run_bind,Sem.run_pure,Result.andThen_ok,invoke];have:=aE1 (ty:=ty) (consts:=c.args.map fun| .const _=>true|_=>false) r h0 ha;exact⟨this.1,fun⟨b',hb,hq⟩ =>this.2 (by cases hb;exact hq)⟩
theorem rR (x:Nat) :∀ (l:List Nat),aAF x l=l.contains x
 | [] =>rfl
 | y::l=>by
  rw [aAF,List.contains_cons,rR x l];congr 1;rw [Bool.eq_iff_iff,beq_eq,beq_iff_eq];exact eq_comm
theorem ERs.filter {E:Emb}(p:Nat→Bool) :∀ {aS:List (AV×AV×Nat)} {us:List MapEntry},ERs E aS us→ERs E (aS.filter fun e=>p e.2.2) (us.filter fun u=>p u.born)
 | [],_,r=>by simp only [ERs]at r;subst r;simp [ERs]
 | a::aS,_,r=>by
  simp only [ERs]at r;obtain⟨u,us',rfl,h2,h3,h4,h5⟩ :=r;have ih:=ERs.filter p h5;simp only [List.filter_cons,h4];split
  ·simp only [ERs];exact⟨u,_,rfl,h2,h3,h4,ih⟩
  ·exact ih
theorem ERs.append {E:Emb}:∀ {aS bs:List (AV×AV×Nat)} {us vs:List MapEntry},ERs E aS us→ERs E bs vs→ERs E (aS++bs) (us++vs)
 | [],_,_,_,r,k=>by simp only [ERs]at r;subst r;exact k
 | a::aS,_,_,_,r,k=>by
  simp only [ERs]at r;obtain⟨u,us',rfl,h2,h3,h4,h5⟩ :=r;simp only [aAb,ERs];exact⟨u,_,rfl,h2,h3,h4,h5.append k⟩
theorem ERs.len {E:Emb}:∀ {aS:List (AV×AV×Nat)} {us:List MapEntry},ERs E aS us→aS.length=us.length
 | [],_,r=>by simp only [ERs]at r;subst r;rfl
 | a::aS,_,r=>by
  simp only [ERs]at r;obtain⟨u,us',rfl,h2,h3,h4,h5⟩ :=r;simp [h5.len]
theorem ERs.get {E:Emb}:∀ {aS:List (AV×AV×Nat)} {us:List MapEntry},ERs E aS us→∀ (i:Nat) (u:MapEntry),us[i]?=some u→∃a,aS[i]?=some a∧VR E a.1 u.key∧VR E a.2.1 u.val∧u.born=a.2.2
 | [],_,r,i,u,e=>by simp only [ERs]at r;subst r;simp at e
 | a::aS,_,r,i,u,e=>by
  simp only [ERs]at r;obtain⟨u',us',rfl,h2,h3,h4,h5⟩ :=r;cases i with
  |zero=>simp at e;subst e;exact⟨a,rfl,h2,h3,h4⟩
  |succ i=>simp at e;obtain⟨b,g1,g2⟩ :=h5.get i u e;exact⟨b,by simpa using g1,g2⟩
theorem ERs.all {E:Emb}(p:Nat→Bool) :∀ {aS:List (AV×AV×Nat)} {us:List MapEntry},ERs E aS us→ (aS.all fun e=>p e.2.2) =us.all fun u=>p u.born
 | [],_,r=>by simp only [ERs]at r;subst r;rfl
 | a::aS,_,r=>by
  simp only [ERs]at r;obtain⟨u,us',rfl,h2,h3,h4,h5⟩ :=r;simp only [List.all_cons,h4,ERs.all p h5]
theorem tV {r:Nat}{m:Option Nat}{s:Nat}{l:Array Nat}{n:Nat}(hr:w.heap[r]?=some (.mapIter m s l n)) : (getObj r).run P w= .ok (.mapIter m s l n) w:=by
 simp [getObj,Sem.run,hr]
theorem aIP (n:Nat)(hn:0<n) :∃c d,c<n∧ (choose (.mapNext n)).run P w= .ok c {w with drawn:=d}:=by
 by_cases h1:n≤1
 · refine⟨0,w.drawn,hn,?_⟩;have hq: (Question.mapNext n).forced=true:=by simp [Question.forced,h1]
   simp only [run_choose,hq,if_true]
 · refine⟨(Question.mapNext n).cut (w.tape w.drawn (.mapNext n)),w.drawn+1,?_,?_⟩
   · simp only [Question.cut];exact Nat.mod_lt _ hn
   · have hq: (Question.mapNext n).forced=false:=by simp [Question.forced];omega
     simp only [run_choose,hq];rfl
theorem Ext.drew {E:Emb}{h:Hp}{w:World}(d:Nat) :Ext E h w E h {w with drawn:=d}:=
 ⟨Emb.le.refl E,le_refl _,fun _ _ _=>rfl,fun b o L h1 h2 i hi _=> ⟨b,o,L,h1,h2,hi⟩,le_refl _,rfl,rfl,rfl,fun _ _=>rfl,fun _ _=>rfl,fun _ _ e _=>.inl e,fun _ o e _=> ⟨o,e⟩⟩
theorem aIQ {es:List (AV×AV×Nat)}{ES:Array MapEntry}(r:ERs E es ES.toList)(since:Nat)(seen:List Nat) :
  let left:=ES.filter fun e=> !(⟨seen⟩ :Array Nat).contains e.born
  let cs:= (if(left.filter (·.born<since)).isEmpty then #[none]else #[]) ++ ((left.filter (·.born<since)) ++ (left.filter (·.born≥since))).map some
  0<cs.size∧∀c,c<cs.size→∃x,x∈aIB es since seen∧ ((x=none∧cs[c]?=some none) ∨∃a u,x=some a∧cs[c]?=some (some u) ∧VR E a.1 u.key∧VR E a.2.1 u.val∧u.born=a.2.2) :=by
 intro left cs;have hl:ERs E (es.filter fun e=> !(aAF e.2.2 seen)) left.toList:=by
  have:=r.filter (fun n=> !(aAF n seen));simpa [left,rR]using this
 have ho:ERs E ((es.filter fun e=> !(aAF e.2.2 seen)).filter fun e=>blt e.2.2 since) (left.filter (·.born<since)).toList:=by
  have:=hl.filter (fun n=>blt n since);simpa [cX]using this
 have hn:ERs E ((es.filter fun e=> !(aAF e.2.2 seen)).filter fun e=> !(blt e.2.2 since)) (left.filter (·.born≥since)).toList:=by
  have:=hl.filter (fun n=> !(blt n since));have e1: (left.filter (·.born≥since)).toList=left.toList.filter (fun u=> !(blt u.born since)) :=by
   simp only [Array.toList_filter];congr 1
   funext u
   simp only [cX,ge_iff_le];by_cases g:since≤u.born
   · have:¬u.born<since:=by omega
     simp [g,this]
   · have:u.born<since:=by omega
     simp [g,this]
  rw [e1];exact this
 have hb:=ho.append hn;have hio: (left.filter (·.born<since)).isEmpty= ((es.filter fun e=> !(aAF e.2.2 seen)).filter fun e=>blt e.2.2 since).isEmpty:=by
  have:=ho.len;rw [Bool.eq_iff_iff];simp only [Array.isEmpty_iff_size_eq_zero,List.isEmpty_iff_length_eq_zero,this,Array.length_toList]
 have got:∀ (i:Nat) (u:MapEntry),((left.filter (·.born<since)).toList++ (left.filter (·.born≥since)).toList)[i]?=some u→∃a,a∈ ((es.filter fun e=> !(aAF e.2.2 seen)).filter fun e=>blt e.2.2 since) ++ ((es.filter fun e=> !(aAF e.2.2 seen)).filter fun e=> !(blt e.2.2 since)) ∧VR E a.1 u.key∧VR E a.2.1 u.val∧u.born=a.2.2:=fun i u e=>by
  obtain⟨a,g1,g2⟩ :=hb.get i u e;exact⟨a,kN g1,g2⟩
 have ecs:cs.toList= (if((es.filter fun e=> !(aAF e.2.2 seen)).filter fun e=>blt e.2.2 since).isEmpty then [none]else []) ++ ((left.filter (·.born<since)).toList++ (left.filter (·.born≥since)).toList).map some:=by
  simp only [cs,hio];split<;>simp
 have esz:cs.size=cs.toList.length:=by simp
 refine⟨?_,fun c hc=>?_⟩
 · rw [esz,ecs];by_cases g: ((es.filter fun e=> !(aAF e.2.2 seen)).filter fun e=>blt e.2.2 since).isEmpty=true
   ·rw [if_pos g];simp
   · rw [←hio,Array.isEmpty_iff_size_eq_zero]at g;have:0< (left.filter (·.born<since)).toList.length:=by simp only [Array.length_toList];omega
     simp only [tI,lN];omega
 · have hc2:c<cs.toList.length:=by omega
   have hx:cs[c]?=some cs.toList[c] :=by rw [←rN];exact kF hc2
   have hmem:=List.getElem_mem hc2;rw [hx];generalize cs.toList[c] =y at hmem;rw [ecs]at hmem;rcases zq28.1 hmem with g|g
   · split at g
     · rename_i hi;simp only [zq32]at g;subst g;exact⟨none,by simp only [aIB,hi,if_true];simp,.inl ⟨rfl,rfl⟩⟩
     ·cases g
   · obtain⟨u,hu,rfl⟩ :=zq24.1 g;obtain⟨i,hi,rfl⟩ :=List.mem_iff_getElem.1 hu;obtain⟨a,ha,g2⟩ :=got i _ (kF hi);exact⟨some a,by simp only [aIB];exact zq28.2 (.inr (zq24.2 ⟨a,ha,rfl⟩)),.inr ⟨a,_,rfl,rfl,g2⟩⟩
theorem aDo (r:Rel E h w.heap){b:Nat}{l:List (AV×Hp)}{L:Loc}(h0:aHv h b=some l)(hE:E b=some L)(hL:L.sh=0) :
  ∃v h',(v,h') ∈l∧∃cv w',(∀ty,(Instr.next (.pointer (some ⟨L.blk,0,none⟩)) false ty).run P w= .ok cv w') ∧VR E v cv∧Rel E h' w'.heap∧Ext E h w E h' w':=by
 unfold aHv at h0;split at h0
 · rename_i m since seen last hm;obtain⟨L',g1,Lm,g2,g3,g4⟩ :=r.obj _ _ hm;rw [hE]at g1;cases g1;split at h0
   · rename_i es clock hmm;obtain⟨L',k1,ES,k2,k3⟩ :=r.obj _ _ hmm;rw [g3]at k1;cases k1;cases hc: (!seen.isEmpty&& !es.isEmpty&&es.all (fun e=>ble last e.2.2))with
     |true=>rw [hc]at h0;cases h0
     | false=>
      rw [hc]at h0;simp only [cond]at h0;cases h0;have e1: (!(⟨seen⟩ :Array Nat).isEmpty&& !ES.isEmpty&&ES.all (·.born≥last)) =false:=by
       rw [←hc];have a1: (⟨seen⟩ :Array Nat).isEmpty=seen.isEmpty:=by rw [←Array.isEmpty_toList]
       have a2:ES.isEmpty=es.isEmpty:=by
        have:=k3.len;rw [Bool.eq_iff_iff];simp only [Array.isEmpty_iff_size_eq_zero,List.isEmpty_iff_length_eq_zero,this,Array.length_toList]
       have a3:ES.all (·.born≥last) =es.all (fun e=>ble last e.2.2) :=by
        rw [k3.all (fun n=>ble last n),←Array.all_toList];congr 1
        funext u
        rw [Bool.eq_iff_iff];simp
       rw [a1,a2,a3]
      obtain⟨c1,c2⟩ :=aIQ k3 since seen;obtain⟨c,d,c3,c4⟩ :=aIP (P:=P) (w:=w) _ c1;obtain⟨x,c5,c6⟩ :=c2 c c3;refine⟨_,_,zq24.2 ⟨x,c5,rfl⟩,?_⟩;rcases c6 with⟨rfl,c7⟩ | ⟨a,u,rfl,c7,c8,c9,c10⟩
      · refine⟨.tuple #[.bool false],{w with drawn:=d},fun ty=>?_,?_,r,Ext.drew d⟩
        ·simp only [Instr.next,Sem.run_bind,tV g2,Result.andThen_ok,eN k2,e1,sF,if_false,c4,c7,Sem.run_pure]
        ·simp only [VR];exact⟨_,rfl,VRs.cons (by simp [VR]) (VRs.nil E)⟩
      · have r1:Rel E h ({w with drawn:=d}:World).heap:=r;have q:=r1.setObj (o':=.miter m since (seen++ [a.2.2]) clock) (.mapIter (some Lm.blk) since (#[u.born].foldl (·.push ·) ⟨seen⟩) clock) hm hE rfl rfl (fun H' hH=> ⟨Lm,by rw [hH,←c10];simp,g3,g4⟩);refine⟨.tuple #[.bool true,u.key,u.val],cG {w with drawn:=d} L.blk (.mapIter (some Lm.blk) since ((⟨seen⟩ :Array Nat).push u.born) clock),fun ty=>?_,?_,q.1,(Ext.drew d).trans q.2⟩
        · have:=pZ (P:=P) (w:={w with drawn:=d}) (ob':=.mapIter (some Lm.blk) since ((⟨seen⟩ :Array Nat).push u.born) clock) g2 (fun _ _ _ e=>by cases e);simp only [Instr.next,Sem.run_bind,tV g2,Result.andThen_ok,eN k2,e1,sF,if_false,c4,c7,this,Sem.run_pure]
        · simp only [VR];exact⟨_,rfl,VRs.cons (by simp [VR]) (VRs.cons c8 (VRs.cons c9 (VRs.nil E)))⟩
   ·cases h0
 ·cases h0
theorem ERs.find {E:Emb}(p:Nat→Bool) :∀ {aS:List (AV×AV×Nat)} {us:List MapEntry},ERs E aS us→∀ {a},aS.find? (fun e=>p e.2.2) =some a→∃u,us.find? (fun u=>p u.born) =some u∧VR E a.1 u.key∧VR E a.2.1 u.val
 | [],_,_,a,e=>by simp at e
 | b::aS,_,r,a,e=>by
  simp only [ERs]at r;obtain⟨u,us',rfl,h2,h3,h4,h5⟩ :=r;rw [List.find?_cons]at e ⊢;rw [h4];split at e
  ·cases e;exact⟨u,rfl,h2,h3⟩
  ·exact ERs.find p h5 e
theorem aIR (r:Rel E h w.heap){b:Nat}{v:AV}{L:Loc}(h0:aN4 h b=some v)(hE:E b=some L) :
  L.sh=0∧∃cv,(Instr.entry (.pointer (some ⟨L.blk,0,none⟩))).run P w= .ok cv w∧VR E v cv:=by
 unfold aN4 at h0;split at h0
 · rename_i m since seen last hm;obtain⟨L',g1,Lm,g2,g3,g4⟩ :=r.obj _ _ hm;rw [hE]at g1;cases g1;split at h0
   · rename_i stamp es clock hs hmm;obtain⟨L',k1,ES,k2,k3⟩ :=r.obj _ _ hmm;rw [g3]at k1;cases k1;cases hc:beq clock last with
     |false=>rw [hc]at h0;cases h0
     | true=>
      rw [hc]at h0;simp only [cond]at h0;split at h0
      · rename_i e he;cases h0;obtain⟨u,q1,q2,q3⟩ :=k3.find (fun n=>beq n stamp) he;have q1':ES.find? (·.born==stamp) =some u:=by
         rw [←Array.find?_toList];have e3: (fun u:MapEntry=> (u.born==stamp)) =fun u=>beq u.born stamp:=by funext u;rw [Bool.eq_iff_iff,beq_iff_eq,beq_eq]
         rw [e3];exact q1
        have hb: (⟨seen⟩ :Array Nat).back?=some stamp:=by simpa [←Array.getLast?_toList]using hs
        have hcl: (clock != last) =false:=by rw [beq_eq]at hc;simp [hc]
        refine⟨g4,.tuple #[u.key,u.val],?_,?_⟩
        ·simp only [Instr.entry,Sem.run_bind,tV g2,Result.andThen_ok,hb,eN k2,hcl,sF,if_false,q1',Sem.run_pure]
        · simp only [VR];exact⟨_,rfl,VRs.cons q2 (VRs.cons q3 (VRs.nil E))⟩
      ·cases h0
   ·cases h0
 ·cases h0
theorem aBo {r:Nat}{s:ByteArray}{p:Nat}(hr:w.heap[r]?=some (.stringIter s p)) : (getObj r).run P w= .ok (.stringIter s p) w:=by
 simp [getObj,Sem.run,hr]
theorem aIS {l n pos c d:Nat}(h0:aN3 l n pos=some (c,d)) :Utf8.decode (hU l n) pos= (c,d) ∧pos<l:=by
 unfold aN3 at h0;rw [cX]at h0;by_cases hp:pos<l
 · simp only [hp,decide_true,cond]at h0;rw [cX]at h0;by_cases hc:Nat.mod (Nat.div n (Nat.pow 256 pos)) 256<128
   · simp only [hc,decide_true]at h0;cases h0;refine⟨?_,hp⟩;have hc':n / 256 ^ pos % 256<128:=hc;have hg: ((hU l n).get! pos).toNat=n / 256 ^ pos % 256:=by
      have:=jQ l n pos hp;simp only [hU,ByteArray.get!];have h2: (⟨aP l n⟩ :Array UInt8)[pos]! =UInt8.ofNat (n / 256 ^ pos % 256) :=by
       rw [Array.getElem!_eq_getD,aAB,show(⟨aP l n⟩ :Array UInt8) = (aP l n).toArray from rfl,List.getElem?_toArray,this];rfl
      rw [h2];simp
     show Utf8.decode (hU l n) pos= (n / 256 ^ pos % 256,1);have hlt:n / 256 ^ pos % 256<0x80:=hc';simp only [Utf8.decode,Nat.add_zero,hg,hlt,if_true]
   ·simp only [hc,decide_false,Option.some.injEq]at h0;exact⟨h0,hp⟩
 ·simp only [hp,decide_false,cond]at h0;cases h0
set_option maxHeartbeats 4000000 in
theorem aLn (r:Rel E h w.heap){o:Oper}(hρ:Reads E tm ρ (· ∈o.op.operands)){out:AOut}(h0:gU P h tm o=some out) :
  Out P E h w ((execOp ρ o).run P w) out∧ (dE o.op= .pure∨dE o.op= .read→aSB P E h w ((execOp ρ o).run P w) out) :=by
 unfold gU at h0;unfold execOp;split at h0
 all_goals (rename_i hop;try (simp only [hop];rw [hop]at hρ))
 · -- move
   obtain⟨a,ha,rfl⟩ :=dU h0;have hh:=hρ _ (by simp [Op.operands]) _ ha;exact⟨⟨E,w,_,.inl rfl,hh,r,Ext.refl _ _ _⟩,fun _=> ⟨rfl,_,rfl,hh⟩⟩
 · obtain⟨a,ha,rfl⟩ :=dU h0;have hh:=hρ _ (by simp [Op.operands]) _ ha;exact⟨⟨E,w,_,.inl rfl,hh,r,Ext.refl _ _ _⟩,fun _=> ⟨rfl,_,rfl,hh⟩⟩
 · -- pick
   split at h0
   · rename_i hc;obtain⟨a,ha,rfl⟩ :=dU h0;have:=hρ _ (by simp [Op.operands]) _ hc;simp only [VR]at this;have hh:=hρ _ (by simp [Op.operands]) _ ha;exact⟨⟨E,w,_,.inl (by simp [this,asBool]),hh,r,Ext.refl _ _ _⟩,fun _=> ⟨rfl,_,by simp [this,asBool],hh⟩⟩
   · rename_i hc;obtain⟨a,ha,rfl⟩ :=dU h0;have:=hρ _ (by simp [Op.operands]) _ hc;simp only [VR]at this;have hh:=hρ _ (by simp [Op.operands]) _ ha;exact⟨⟨E,w,_,.inl (by simp [this,asBool]),hh,r,Ext.refl _ _ _⟩,fun _=> ⟨rfl,_,by simp [this,asBool],hh⟩⟩
   ·cases h0
 · -- alloc
   rename_i e;split at h0
   · rename_i z hz;cases h0;obtain⟨cz,z1,z2⟩ :=iK hz;obtain⟨q1,q2⟩ :=kR r (z2 E).cells e;refine nq (by simp [dE]) ?_;exact kQ (s:=Instr.alloc e true (.tuple #[])) (cv:=.pointer (some ⟨w.heap.size,0,none⟩)) (by simp [Instr.alloc,z1,newVar,newRow]) (yO w h _) q1 q2
   ·cases h0
 · -- box
   rename_i e x;obtain⟨a,ha,h0⟩ :=dC h0;cases h0;obtain⟨q1,q2⟩ :=kR r (hρ _ (by simp [Op.operands]) _ ha).cells e;refine nq (by simp [dE]) ?_;exact kQ (s:=Instr.box e (ρ x)) (cv:=.pointer (some ⟨w.heap.size,0,none⟩)) (by simp [Instr.box,newVar,newRow]) (yO w h _) q1 q2
 · -- build
   rename_i t ps;split at h0
   · rename_i l hl;obtain⟨a,ha,rfl⟩ :=dU h0;obtain⟨g1,g2⟩ :=hρ.parts (fun p hp=>by simp only [Op.operands,List.mem_toArray,zq24];exact⟨p,hp,rfl⟩) hl;obtain⟨cv,k1,k2⟩ :=aIO (w:=w) (qs:=ps.map fun(i,x) => (i,ρ x)) ha (by rw [g1];simp) (by simpa [Function.comp_def]using g2);exact aV r k1 k2
   ·cases h0
 · -- buildSlice
   rename_i t n ps;split at h0
   · rename_i l hl;split at h0
     · rename_i cs s hcs;cases h0;obtain⟨g1,g2⟩ :=hρ.parts (fun p hp=>by simp only [Op.operands,List.mem_toArray,zq24];exact⟨p,hp,rfl⟩) hl;obtain⟨out,e,k1,k2,k3⟩ :=qY r (qs:=ps.map fun(i,x) => (i,ρ x)) hcs (by rw [g1];simp) (by simpa [Function.comp_def]using g2);obtain⟨q1,q2⟩ :=kR r k1 e;refine nq (by simp [dE]) ?_;exact kQ (k3 w) (qW w h _ n n s n true (le_refl _) (le_refl _) (fun _=>rfl) k2) q1 q2
     ·cases h0
   ·cases h0
 · -- load
   rename_i t a;obtain⟨p,hp,h0⟩ :=dC h0;split at h0
   · rename_i b off;obtain⟨v,hv,rfl⟩ :=dU h0;have:=hρ _ (by simp [Op.operands]) _ hp;simp only [VR]at this;obtain⟨L,hE,hL⟩ :=this;obtain⟨cv,k1,k2⟩ :=aDn r hv hE;exact aV r (by simp [Instr.loadAt,hL,Instr.sureAddr,k1]) k2
   ·cases h0
 · -- store
   rename_i t a x;obtain⟨p,v,hp,hx,h0⟩ :=gV h0;split at h0
   · rename_i b off;obtain⟨h',hv,rfl⟩ :=tR h0;have:=hρ _ (by simp [Op.operands]) _ hp;simp only [VR]at this;obtain⟨L,hE,hL⟩ :=this;obtain⟨w',k1,k2,k3⟩ :=aII r hv hE (hρ _ (by simp [Op.operands]) _ hx);refine nq (by simp [dE]) ?_;exact wI (by simp [Instr.storeAt,hL,Instr.sureAddr,k1]) k2 k3
   ·cases h0
 · -- nilCheck
   rename_i x;obtain⟨a,ha,h0⟩ :=dC h0;have hv:=hρ _ (by simp [Op.operands]) _ ha;split at h0
   ·cases h0
   ·cases h0
   ·cases h0
   ·cases h0
   · rename_i name t v;split at h0
     · rename_i f hm;cases h0;simp only [VR]at hv;obtain⟨u,hu,c,rfl,hc⟩ :=hv;obtain⟨k,hk⟩ :=aHD P;have hh:VR E (.meth name (.iface t v)) (.func (.method name) #[.iface t c] #[]) :=by simp only [VR];exact⟨_,rfl,c,rfl,hc⟩
       exact⟨⟨E,w,.func (.method name) #[.iface t c] #[],.inl (by simp [hu,hk,aBl hm]),hh,r,Ext.refl _ _ _⟩,fun _=> ⟨rfl,_,by simp [hu,hk,aBl hm],hh⟩⟩
     ·cases h0
   ·cases h0
   · rename_i v h1 h2 h3 h6 h4 h5;cases h0;have hr:∀A B,(A=Result.ok (Next.value (ρ x)) w→B) →A=Result.ok (Next.value (ρ x)) w→B:=fun _ _ f h=>f h;refine hr _ _ (fun e=> ⟨⟨E,w,ρ x,.inl e,hv,r,Ext.refl _ _ _⟩,fun _=> ⟨rfl,_,e,hv⟩⟩) ?_;cases a<;>simp only [VR]at hv
     case nilp=>exact absurd rfl h1
     case nili=>exact absurd rfl h2
     case nilf=>exact absurd rfl h3
     case meth n rc=>exact absurd rfl (h5 n rc)
     case val u=>exact absurd rfl (h6 u)
     case ilst=>obtain⟨vs,_,hv⟩ :=hv;rcases hv.2 with⟨_,_,_,hL,_⟩ | ⟨_,_,_,_,hL,_⟩ <;> (rw [hL];rfl)
     case iptr=>obtain⟨us,_,_,_,_,hL,_⟩ :=hv;rw [hL];rfl
     case gl=>rcases hv with⟨_,_,hL⟩ | ⟨_,_,_,_,hL,_⟩ <;> (rw [hL];rfl)
     all_goals (first
      | (rw [hv];rfl)
      | (obtain⟨L,_,hL⟩ :=hv;rw [hL];rfl)
      | (obtain⟨L,off,cap,_,hL,_⟩ :=hv;rw [hL];rfl)
      | (obtain⟨a,b,hL,_⟩ :=hv;rw [hL];rfl)
      | (obtain⟨u,hL,_⟩ :=hv;rw [hL];rfl))
 · -- binOp
   rename_i op t x y yt;obtain⟨a,b,ha,hb,h0⟩ :=gV h0;obtain⟨v,hv,rfl⟩ :=dU h0;obtain⟨cv,k1,k2⟩ :=aN8 (w:=w) x y hv (hρ _ (by simp [Op.operands]) _ ha) (hρ _ (by simp [Op.operands]) _ hb);exact aV r k1 k2
 · -- unOp
   obtain⟨a,ha,h0⟩ :=dC h0;obtain⟨v,hv,rfl⟩ :=dU h0;obtain⟨cv,k1,k2⟩ :=aSC (P:=P) (w:=w) hv (hρ _ (by simp [Op.operands]) _ ha);exact aV r k1 k2
 · -- convert
   obtain⟨a,ha,h0⟩ :=dC h0;obtain⟨v,hv,rfl⟩ :=dU h0;obtain⟨cv,k1,k2⟩ :=aEU r hv (hρ _ (by simp [Op.operands]) _ ha);exact aV r k1 k2
 · -- makeInterface
   rename_i t x;obtain⟨a,ha,h0⟩ :=dC h0;split at h0
   ·cases h0
   · rename_i d hni hu;cases h0;have hd:∀ms,d≠ .interface ms:=fun ms e=>hni ms (by rw [e]);refine aV r (cv:=.iface t (ρ x)) ?_ (by simp only [VR];exact⟨_,rfl,hρ _ (by simp [Op.operands]) _ ha⟩);cases d<;>first|exact absurd rfl (hd _) |simp [Instr.makeInterface,aB hu]
   ·cases h0
 · -- makeFunc
   rename_i f first cap
   split at h0
   · rename_i fs cs hf hc;cases h0;refine aV r (cv:=.func (.func f) (first.map ρ) (cap.map ρ)) (by simp [Instr.makeFunc]) ?_;simp only [VR];exact⟨first.toList.map ρ,cap.toList.map ρ,by congr 1<;> (apply Array.ext';simp),hρ.list (fun x hx=>by simp only [Op.operands,Array.mem_append];exact .inl (by simpa using hx)) hf,hρ.list (fun x hx=>by simp only [Op.operands,Array.mem_append];exact .inr (by simpa using hx)) hc⟩
   ·cases h0
 · rename_i name first cap
   split at h0
   · rename_i rc hf;cases hc:cap.isEmpty with
     |false=>rw [hc]at h0;cases h0
     | true=>
      rw [hc]at h0;simp only [cond]at h0;cases h0;obtain⟨u,us,hu1,hu2,hu3⟩ := (hρ.list (fun x hx=>by simp only [Op.operands,Array.mem_append];exact .inl (by simpa using hx)) hf).cons_inv;rw [hu3.nil_inv]at hu1;have e1:first.map ρ= #[u] :=by apply Array.ext';simpa using hu1
      have e2:cap.map ρ= #[] :=by have:=Array.isEmpty_iff.1 hc;subst this;simp
      exact aV r (cv:=.func (.method name) #[u] #[]) (by simp [Instr.makeFunc,e1,e2]) (by simp only [VR];exact⟨u,rfl,hu2⟩)
   ·cases h0
 · rename_i t path f pr first cap
   split at h0
   · rename_i rc hp hf;cases hc:cap.isEmpty with
     |false=>rw [hc]at h0;cases h0
     | true=>
      rw [hc]at h0;simp only [cond]at h0;cases h0;obtain⟨u,us,hu1,hu2,hu3⟩ := (hρ.list (fun x hx=>by simp only [Op.operands,Array.mem_append];exact .inl (by simpa using hx)) hf).cons_inv;rw [hu3.nil_inv]at hu1;have e1:first.map ρ= #[u] :=by apply Array.ext';simpa using hu1
      have e2:cap.map ρ= #[] :=by have:=Array.isEmpty_iff.1 hc;subst this;simp
      have e3:path= #[] :=by apply Array.ext';simpa using hp
      exact aV r (cv:=.func (.via t #[] f pr) #[u] #[]) (by simp [Instr.makeFunc,e1,e2,e3]) (by simp only [VR];exact⟨u,rfl,hu2⟩)
   ·cases h0
 · -- makeMap
   cases h0;obtain⟨q1,q2⟩ :=r.new (.map [] 0) (.map #[] 0) 0 (fun _ _ _ _ hH=> ⟨#[],hH,by simp [ERs]⟩);refine nq (by simp [dE]) ?_;refine kQ (s:=Instr.makeMap _ (Option.map ρ none)) (cv:=.map (some w.heap.size)) (by simp [Instr.makeMap]) ?_ q1 q2;simp only [VR];exact⟨_,Emb.put_same _ _ _,rfl⟩
 · -- makeSlice
   rename_i t l c;obtain⟨a,b,ha,hb,h0⟩ :=gV h0;split at h0
   · rename_i k1 n k2 m;split at h0
     · rename_i e hu;split at h0
       · rename_i s z inf hs hz hinf;split at h0
         · rename_i hnm;cases hc: (ble s 40&&ble 1 s&&beq z.cells.length s&&ble inf.bytes 1000)with
           |false=>rw [hc]at h0;cases h0
           | true=>
            rw [hc]at h0;simp only [cond]at h0;cases h0;simp only [iY,bM,cM,decide_eq_true_eq]at hc;obtain⟨⟨⟨hs40,hs1⟩,hzl⟩,hby⟩ :=hc;have e1:=hρ _ (by simp [Op.operands]) _ ha;have e2:=hρ _ (by simp [Op.operands]) _ hb;simp only [VR]at e1 e2;obtain⟨cz,z1,z2⟩ :=iK hz;have hzs:cz.cells.size=s:=by have:= (z2 E).cells.length;simp only [Array.length_toList]at this;omega
            obtain⟨nn,rfl⟩ :=Int.eq_ofNat_of_zero_le hnm.1;obtain⟨mm,rfl⟩ :=Int.eq_ofNat_of_zero_le (show 0≤m by omega);have hl1:IntKind.i64.wrap (nn:Int) =nn:=wrap_small (by omega);have hl2:IntKind.i64.wrap (mm:Int) =mm:=wrap_small (by omega);have zr:=aCE (z2 E).cells mm (by omega);rw [hzs]at zr;obtain⟨q1,q2⟩ :=kR r zr e;simp only [oY];have hbig:¬ ((inf.bytes:Int) * (mm:Int) >2 ^ 48) :=by
             have h3:inf.bytes*mm≤1000*100000:=mul_le_mul hby (by omega);rw [←Int.natCast_mul];generalize inf.bytes*mm=q at h3;omega
            have hcond:¬ ((((mm:Int) <0||decide ((inf.bytes:Int) * (mm:Int) >2 ^ 48)) =true∨ (nn:Int) <0) ∨ (nn:Int) > (mm:Int)) :=by
             simp only [hbig,decide_false,Bool.or_false,decide_eq_true_eq];omega
            refine nq (by simp [dE]) ?_;refine kQ (cv:=.slice (some ⟨w.heap.size,0,none⟩) nn mm) ?_ (qW w h _ nn mm s mm true (by omega) (le_refl _) (fun _=>rfl) (by simp)) q1 q2;have hne1:¬ ((mm:Int) <0) :=by omega
            have hne2:¬ ((nn:Int) <0) :=by omega
            have hne3:¬ ((nn:Int) > (mm:Int)) :=by omega
            simp only [Instr.makeSlice,Sem.run_bind,aB hu,Result.andThen_ok,e1,e2,aCD,dH hinf,hl1,hl2];rw [if_neg (by simp only [Bool.or_eq_true,decide_eq_true_eq,gt_iff_lt];omega)];simp only [Sem.run_bind,run_askRoom,Result.andThen_ok,cD hs,oY];have fin:∀z':Array Value,z'=cz.cells∨mm*s=0→ (⟨((Array.range (mm*s)).map (fun i=>cz.cells[i % s]!)).toList⟩ :Array Value) = (Array.range (mm*s)).map (fun x=>z'[x % z'.size]!) :=by
             intro z' hz';rcases hz' with rfl|h0
             ·rw [hzs]
             · have e0:Array.range 0= #[] :=rfl;rw [h0,e0];simp
            by_cases h0:mm*s=0
            · rw [if_pos h0,fin #[] (.inr h0)];simp [newRow]
            · rw [if_neg h0,fin cz.cells (.inl rfl)];simp [newRow,z1]
         ·cases h0
       ·cases h0
     ·cases h0
   ·cases h0
 · -- slice
   rename_i t x lo hi mx;obtain⟨a,ha,h0⟩ :=dC h0;split at h0
   · rename_i l1 l2 l3 e1 e2 e3;split at h0
     · rename_i b1 b2 b3 d1 d2 d3;obtain⟨v,hv,rfl⟩ :=dU h0;obtain⟨cv,k1,k2⟩ :=aIN (w:=w) hv (hρ _ (by simp [Op.operands]) _ ha) (sK d1 (lG hρ (fun y hy=>by subst hy;simp [Op.operands]) e1)) (sK d2 (lG hρ (fun y hy=>by subst hy;simp [Op.operands]) e2)) (sK d3 (lG hρ (fun y hy=>by subst hy;simp [Op.operands]) e3));exact aV r k1 k2
     ·cases h0
   ·cases h0
 · -- fieldAddr
   rename_i t x f;obtain⟨a,ha,h0⟩ :=dC h0;split at h0
   · rename_i b off;split at h0
     · rename_i o' ho;cases h0;have:=hρ _ (by simp [Op.operands]) _ ha;simp only [VR]at this;obtain⟨L,hE,hL⟩ :=this;exact aV r (cv:=.pointer (some ⟨L.blk,L.sh+off+o',none⟩)) (by rw [hL];exact tU ho _ _) (by simp only [VR];exact⟨L,hE,by rw [add_assoc]⟩)
     ·cases h0
   ·cases h0
 · -- field
   rename_i t x f;obtain⟨a,ha,h0⟩ :=dC h0;split at h0
   · rename_i cs;have hv:=hρ _ (by simp [Op.operands]) _ ha;simp only [VR]at hv;obtain⟨us,hL,hus⟩ :=hv;split at h0
     · rename_i fs hu;split at h0
       · rename_i fd hfd;split at h0
         · rename_i d s hd hs;have hp:∃v,(bif isAggD d then some (AV.agg ((cs.drop fd.offset).take s))else cs[fd.offset]?) =some v∧out= .val v h:=by
            cases hg:isAggD d with
            |true=>rw [hg]at h0;simp only [cond]at h0;cases h0;exact⟨_,rfl,rfl⟩
            |false=>rw [hg]at h0;simp only [cond]at h0;obtain⟨v,hv,rfl⟩ :=dU h0;exact⟨v,hv,rfl⟩
           obtain⟨v,hv,rfl⟩ :=hp;obtain⟨cv,k1,k2⟩ :=aE0 (w:=w) (cs:= ⟨us⟩) hd hs hus hv;exact aV r (by simp [Instr.field,aB hu,hfd,hL,asAgg,k1]) k2
         ·cases h0
       ·cases h0
     ·cases h0
   ·cases h0
 · -- indexAddr
   rename_i t x ix;obtain⟨a,b,ha,hb,h0⟩ :=gV h0;split at h0
   · rename_i e b' off len cap esz ex hu;split at h0
     · rename_i k s hk hs;cases hc:beq s esz with
       |false=>rw [hc]at h0;cases h0
       | true=>
        rw [hc]at h0;simp only [cond]at h0;cases h0;have:=fN hc;subst this;obtain⟨kk,hci,hlt⟩ :=lF hk (hρ _ (by simp [Op.operands]) _ hb);have hv:=hρ _ (by simp [Op.operands]) _ ha;simp only [VR]at hv;obtain⟨L,off',cap',hE,hL,g1,g2,g3,g4,g5⟩ :=hv;have hoff:=g4 (by omega);subst hoff;refine aV r (cv:=.pointer (some ⟨L.blk,L.sh+off+k*s,none⟩)) ?_ (by simp only [VR];exact⟨L,hE,by rw [add_assoc]⟩);simp [Instr.indexAt,hci,asIntOf,hL,aB hu,Nat.not_le.2 hlt,cD hs,fX]
     ·cases h0
   · rename_i len e b' off hu;split at h0
     · rename_i k s hk hs;cases h0;obtain⟨kk,hci,hlt⟩ :=lF hk (hρ _ (by simp [Op.operands]) _ hb);have hv:=hρ _ (by simp [Op.operands]) _ ha;simp only [VR]at hv;obtain⟨L,hE,hL⟩ :=hv;refine aV r (cv:=.pointer (some ⟨L.blk,L.sh+off+k*s,none⟩)) ?_ (by simp only [VR];exact⟨L,hE,by rw [add_assoc]⟩);simp [Instr.indexAt,hci,asIntOf,hL,aB hu,Nat.not_le.2 hlt,cD hs,fX,Instr.sureAddr]
     ·cases h0
   ·cases h0
 · -- index
   rename_i t x ix;obtain⟨a,b,ha,hb,h0⟩ :=gV h0;split at h0
   · rename_i l n hu;split at h0
     · rename_i k hk;cases h0;obtain⟨kk,hci,hlt⟩ :=lF hk (hρ _ (by simp [Op.operands]) _ hb);have hv:=hρ _ (by simp [Op.operands]) _ ha;simp only [VR]at hv;refine aV r (cv:=.int .u8 ((n / 256 ^ k % 256:Nat) :Int)) ?_ (by simp only [VR];rfl);have hg: (hU l n)[k]?=some (UInt8.ofNat (n / 256 ^ k % 256)) :=by
        have h1:=jQ l n k hlt;have h2:k< (hU l n).size:=by rw [mP];exact hlt
        rw [getElem?_pos (hU l n) k h2];congr 1;have h3:= (zq0.1 h1);obtain⟨h4,h5⟩ :=h3;rw [←h5];rfl
       simp [Instr.index,hci,asIntOf,hv,aB hu,hg]
     ·cases h0
   · rename_i len e cs hu;have hv:=hρ _ (by simp [Op.operands]) _ ha;simp only [VR]at hv;obtain⟨us,hL,hus⟩ :=hv;split at h0
     · rename_i k d s hk hd hs;obtain⟨kk,hci,hlt⟩ :=lF hk (hρ _ (by simp [Op.operands]) _ hb);have hp:∃v,(bif isAggD d then some (AV.agg ((cs.drop (k*s)).take s))else cs[k*s]?) =some v∧out= .val v h:=by
        cases hg:isAggD d with
        |true=>rw [hg]at h0;simp only [cond]at h0;cases h0;exact⟨_,rfl,rfl⟩
        |false=>rw [hg]at h0;simp only [cond]at h0;obtain⟨v,hv,rfl⟩ :=dU h0;exact⟨v,hv,rfl⟩
       obtain⟨v,hv,rfl⟩ :=hp;obtain⟨cv,k1,k2⟩ :=aE0 (w:=w) (cs:= ⟨us⟩) hd hs hus hv;exact aV r (by simp [Instr.index,hci,asIntOf,hL,aB hu,Nat.not_le.2 hlt,cD hs,k1]) k2
     ·cases h0
   ·cases h0
 · -- lookup
   obtain⟨a,b,ha,hb,h0⟩ :=gV h0;obtain⟨v,hv,rfl⟩ :=dU h0;obtain⟨cv,k1,k2⟩ :=aHa r hv (hρ _ (by simp [Op.operands]) _ ha) (hρ _ (by simp [Op.operands]) _ hb);exact aV r k1 k2
 · -- mapUpdate
   rename_i t m k x;obtain⟨a,b,ha,hb,h0⟩ :=gV h0;obtain⟨c,hc,h0⟩ :=dC h0;obtain⟨h',hv,rfl⟩ :=tR h0;obtain⟨w',k1,k2,k3⟩ :=sL r hv (hρ _ (by simp [Op.operands]) _ ha) (hρ _ (by simp [Op.operands]) _ hb) (hρ _ (by simp [Op.operands]) _ hc);refine nq (by simp [dE]) ?_;exact wI k1 k2 k3
 · rename_i t m k x;obtain⟨a,b,ha,hb,h0⟩ :=gV h0;obtain⟨c,hc,h0⟩ :=dC h0;obtain⟨h',hv,rfl⟩ :=tR h0;obtain⟨w',k1,k2,k3⟩ :=sL r hv (hρ _ (by simp [Op.operands]) _ ha) (hρ _ (by simp [Op.operands]) _ hb) (hρ _ (by simp [Op.operands]) _ hc);refine nq (by simp [dE]) ?_;exact wI k1 k2 k3
 · -- mapEntry
   obtain⟨a,b,ha,hb,h0⟩ :=gV h0;obtain⟨v,h',hv,rfl⟩ :=aHC h0;obtain⟨cv,w',k1,k2,k3,k4⟩ :=aD3 r hv (hρ _ (by simp [Op.operands]) _ ha) (hρ _ (by simp [Op.operands]) _ hb);refine nq (by simp [dE]) ?_;exact kQ k1 k2 k3 k4
 · -- entryStore
   rename_i t m s x;obtain⟨a,b,ha,hb,h0⟩ :=gV h0;obtain⟨c,hc,h0⟩ :=dC h0;obtain⟨h',hv,rfl⟩ :=tR h0;obtain⟨w',k1,k2,k3⟩ :=aBk r t hv (hρ _ (by simp [Op.operands]) _ ha) (hρ _ (by simp [Op.operands]) _ hb) (hρ _ (by simp [Op.operands]) _ hc);refine nq (by simp [dE]) ?_;exact wI k1 k2 k3
 · -- range
   rename_i t x;obtain⟨a,ha,h0⟩ :=dC h0;split at h0
   · rename_i l n hu;cases h0;have hv:=hρ _ (by simp [Op.operands]) _ ha;simp only [VR]at hv;obtain⟨q1,q2⟩ :=r.new (.siter l n 0) (.stringIter (hU l n) 0) 0 (fun _ _ _ _ hH=> ⟨hH,rfl⟩);refine nq (by simp [dE]) ?_;refine kQ (cv:=.pointer (some ⟨w.heap.size,0,none⟩)) (by simp [Instr.range,aB hu,hv]) ?_ q1 q2;exact yO w h 0
   · rename_i kt et m hu;split at h0
     · rename_i es clock hm;cases h0;have hv:=hρ _ (by simp [Op.operands]) _ ha;simp only [VR]at hv;obtain⟨Lm,hE,hv⟩ :=hv;obtain⟨L',k1,ES,k2,k3⟩ :=r.obj _ _ hm;rw [hE]at k1;cases k1;obtain⟨q1,q2⟩ :=r.new (.miter m clock [] clock) (.mapIter (some Lm.blk) clock #[] clock) 0 (fun E' H' hle he hH=> ⟨Lm,hH,hle.1 _ _ hE,rfl⟩);refine nq (by simp [dE]) ?_;refine kQ (cv:=.pointer (some ⟨w.heap.size,0,none⟩)) (by simp [Instr.range,aB hu,hv,eN k2]) ?_ q1 q2;exact yO w h 0
     ·cases h0
   ·cases h0
 · -- next of a map
   rename_i it;obtain⟨a,ha,h0⟩ :=dC h0;split at h0
   · rename_i rr;have hv:=hρ _ (by simp [Op.operands]) _ ha;simp only [VR]at hv;obtain⟨L,hE,hL⟩ :=hv;split at h0
     · rename_i v h' hm;cases h0;have hz:L.sh=0:=by
        unfold aHv at hm;split at hm
        · rename_i m since seen last hmi;obtain⟨L',g1,Lm,g2,g3,g4⟩ :=r.obj _ _ hmi;rw [hE]at g1;cases g1;exact g4
        ·cases hm
       obtain⟨v1,h1,g1,cv,w',g2,g3,g4,g5⟩ :=aDo (P:=P) r hm hE hz;simp only [zq32,Prod.mk.injEq]at g1;obtain⟨rfl,rfl⟩ :=g1;refine nq (by simp [dE]) ?_;refine kQ (cv:=cv) (w':=w') ?_ g3 g4 g5;rw [hL,hz];exact g2 _
     ·cases h0
   ·cases h0
 · -- next
   rename_i it;obtain⟨a,ha,h0⟩ :=dC h0;split at h0
   · rename_i rr;have hv:=hρ _ (by simp [Op.operands]) _ ha;simp only [VR]at hv;obtain⟨L,hE,hL⟩ :=hv;split at h0
     · rename_i l n pos hm;obtain⟨L',g1,g2,g3⟩ :=r.obj _ _ hm;rw [hE]at g1;cases g1;have hz:L.sh+0=0:=by omega
       rw [hz]at hL;cases hp:blt pos l with
       | true=>
        rw [hp]at h0;simp only [cond]at h0;split at h0
        · rename_i c d hc;cases h0;obtain⟨d1,d2⟩ :=aIS hc;have q:=r.setObj (o':=.siter l n (Nat.add pos d)) (.stringIter (hU l n) (pos+d)) hm hE rfl rfl (fun H' hH=> ⟨hH,g3⟩);refine nq (by simp [dE]) ?_;refine kQ (cv:=.tuple #[.bool true,.int .i64 pos,.int .i32 c]) (w':=cG w L.blk (.stringIter (hU l n) (pos+d))) ?_ ?_ q.1 q.2
          · have hs:pos< (hU l n).size:=by rw [mP];exact d2
            have:=pZ (P:=P) (ob':=.stringIter (hU l n) (pos+d)) g2 (fun _ _ _ e=>by cases e);simp [Instr.next,hL,aBo g2,hs,d1,this,goInt]
          · simp only [VR];exact⟨_,rfl,VRs.cons (by simp [VR]) (VRs.cons (by simp [VR]) (VRs.cons (by simp [VR]) (VRs.nil E)))⟩
        ·cases h0
       | false=>
        rw [hp]at h0;simp only [cond]at h0;cases h0;have hs:¬pos< (hU l n).size:=by rw [mP];intro e;rw [cX]at hp;simp [e]at hp
        refine aV r (cv:=.tuple #[.bool false]) ?_ (by simp only [VR];exact⟨_,rfl,VRs.cons (by simp [VR]) (VRs.nil E)⟩);simp [Instr.next,hL,aBo g2,hs]
     ·cases h0
   ·cases h0
 · -- entry
   rename_i it;obtain⟨a,ha,h0⟩ :=dC h0;split at h0
   · rename_i rr;have hv:=hρ _ (by simp [Op.operands]) _ ha;simp only [VR]at hv;obtain⟨L,hE,hL⟩ :=hv;obtain⟨v,hm,rfl⟩ :=dU h0;obtain⟨hz,cv,g2,g3⟩ :=aIR (P:=P) r hm hE;refine aV r (cv:=cv) ?_ g3;rw [hL,hz];exact g2
   ·cases h0
 · -- typeAssert
   obtain⟨a,ha,h0⟩ :=dC h0;obtain⟨v,hv,rfl⟩ :=dU h0;obtain⟨cv,k1,k2⟩ :=aBn (w:=w) hv (hρ _ (by simp [Op.operands]) _ ha);exact aV r k1 k2
 · -- extract
   rename_i x i;obtain⟨a,ha,h0⟩ :=dC h0;split at h0
   · rename_i vs;obtain⟨v,hv,rfl⟩ :=dU h0;have hx:=hρ _ (by simp [Op.operands]) _ ha;simp only [VR]at hx;obtain⟨us,hL,hus⟩ :=hx;obtain⟨cv,k1,k2⟩ :=hus.get _ _ hv;have k1': (⟨us⟩ :Array Value)[i]?=some cv:=by rw [show(⟨us⟩ :Array Value) =us.toArray from rfl,List.getElem?_toArray];exact k1
     exact aV r (by simp only [hL,Instr.extract,k1',Sem.run_pure]) k2
   ·cases h0
 · -- call
   obtain⟨g1,g2⟩ :=aLm (ty:=o.type) r hρ h0;refine⟨g1,fun hk=>g2 ?_⟩;revert hk;rename_i c;simp only [dE];split<;>rename_i hcc<;>simp [hcc]
 · -- defer
   rename_i c;split at h0
   · rename_i args f hargs hf;split at h0
     · rename_i g first cap hg
       cases hc:eY P g with
       |false=>rw [hc]at h0;cases h0
       | true=>
        rw [hc]at h0;simp only [cond]at h0;cases h0;have hv:=hρ _ (by simp [Op.operands,Call.operands,hf]) _ hg;simp only [VR]at hv;obtain⟨a,b,hL,h1,h2⟩ :=hv;have hm:c.args.map ρ= ⟨c.args.toList.map ρ⟩ :=by apply Array.ext';simp
        refine nq (by simp [dE]) ?_;refine⟨{target:=.fn (.func g) ⟨b⟩,args:= ⟨a⟩ ++ ⟨c.args.toList.map ρ⟩},by simp [resolve,hf,hL,hm,Deferred.ofValue],⟨b,a++c.args.toList.map ρ,?_,(h1.append (hρ.list (fun x hx=>by simp only [Op.operands,Call.operands,Array.mem_append];exact .inr (by simpa using hx)) hargs)).append h2⟩⟩;congr 1;apply Array.ext';simp
     ·cases h0
   ·cases h0
 · -- panic
   obtain⟨a,ha,h0⟩ :=dC h0;split at h0
   · rename_i t v;cases h0;have hv:=hρ _ (by simp [Op.operands]) _ ha;refine nq (by simp [dE]) ?_;refine⟨_,?_,hv⟩;simp only [VR]at hv;obtain⟨u,hL,hu⟩ :=hv;simp [hL,Instr.panic]
   ·cases h0
 ·cases h0
end
end
end Go.Hb
