/- A machine on abstract values, its soundness, ways, plain laws. -/
import Derived.Test.YtnljmgihoioocaaGreatHA
import Derived.Lib.Strings
set_option linter.defProp false
set_option linter.unusedVariables false
set_option linter.unusedSimpArgs false
set_option linter.unusedSectionVars false
set_option maxRecDepth 100000
namespace Go.Hb
open Bool (and_eq_true false_eq_true)
open List (getElem?_append_left getElem?_append_right length_append map_cons mem_map)
open Nat (add_assoc add_mul beq beq_eq ble blt le_refl mul_le_mul mul_le_mul_right)
open Option (getD)
noncomputable section
section
variable {P :Program} {E:Emb} {h h':Hp} {w w':World}
theorem pS (l n:Nat) : (fU l n).toList=aN l n:=by rw [ByteArray.toList_eq];rfl
theorem aAA {a b:ByteArray}(h:a.data.toList=b.data.toList) :a=b:=by
 cases a;cases b;simp at h;simp [h]
theorem aJR (l n l' n':Nat) :fU l n++fU l' n'=fU (l+l') (n % 256 ^ l+256 ^ l*n') :=by
 apply aAA;simp [fU,aC2]
theorem aHm (l n a b:Nat)(h1:a≤b)(h2:b≤l) : (fU l n).extract a b=fU (b-a) (n / 256 ^ a) :=by
 rw [Lib.extract_eq];apply aAA;simp only [fU];rw [aFM,aFN _ _ _ (by omega)]
theorem aHn {op:BinOp}{l n l' n':Nat}{v:AV}(hv:aMD op l n l' n'=some v)(t:TypeId) :
  ∃cv,(binOp op t (.string (fU l n)) (.string (fU l' n'))).run P w= .ok cv w∧VR E v cv:=by
 unfold aMD at hv;cases op<;>simp only at hv<;>try (cases hv;done)
 · cases hb:ble (l+l') 1000000000 with
   |false=>rw [hb]at hv;cases hv
   | true=>
    rw [hb]at hv;simp only [cond]at hv;cases hv;have hle:=Nat.le_of_ble_eq_true hb;refine⟨.string (fU l n++fU l' n'),?_,by rw [aJR];simp only [VR];rfl⟩;have:¬ (((fU l n).size+ (fU l' n').size:Nat) :Int) >IntKind.i64.max:=by
     rw [lO,lO];simp [IntKind.max,IntKind.signed,IntKind.bits];omega
    simp only [binOp,Op.stringOp,this,if_false];rfl
 · cases hv;refine⟨_,by simp only [binOp,Op.stringOp,pS];rfl,?_⟩;simp only [VR,wS];congr 1;simp [Bool.beq_eq_decide_eq]
 · cases hv;refine⟨_,by simp only [binOp,Op.stringOp,pS];rfl,?_⟩;simp only [VR,wS];congr 1;simp [Bool.beq_eq_decide_eq]
 · cases hv;refine⟨_,by simp only [binOp,Op.stringOp,pS];rfl,?_⟩;simp only [VR]
 · cases hv;refine⟨_,by simp only [binOp,Op.stringOp,pS];rfl,?_⟩;simp only [VR]
theorem aMJ (d:Nat){t:TypeId}{x y:AV}{cx cy:Value}{b:Bool}(he:aeq P t x y=some b)(hx:VR E x cx)(hy:VR E y cy) :
  (Op.equalIn (d+1) t cx cy).run P w= .ok b w:=by
 unfold aeq at he;split at he<;>cases he<;>simp only [VR]at hx hy<;>rename_i hu
 ·subst hx hy;simp [Op.equalIn,aB hu]
 ·subst hx hy;simp [Op.equalIn,aB hu]
 ·obtain⟨L,_,rfl⟩ :=hy;subst hx;simp [Op.equalIn,aB hu]
 ·obtain⟨L,_,rfl⟩ :=hx;subst hy;simp [Op.equalIn,aB hu]
 ·obtain⟨u,rfl,_⟩ :=hy;subst hx;simp [Op.equalIn,aB hu]
 ·obtain⟨u,rfl,_⟩ :=hx;subst hy;simp [Op.equalIn,aB hu]
 ·subst hx hy;simp [Op.equalIn,aB hu]
 ·obtain⟨a,b,rfl,_⟩ :=hy;subst hx;simp [Op.equalIn,aB hu]
 ·obtain⟨a,b,rfl,_⟩ :=hx;subst hy;simp [Op.equalIn,aB hu]
 ·subst hx hy;simp [Op.equalIn,aB hu]
 ·obtain⟨L,off,cap,_,rfl,_⟩ :=hy;subst hx;simp [Op.equalIn,aB hu]
 ·obtain⟨L,off,cap,_,rfl,_⟩ :=hx;subst hy;simp [Op.equalIn,aB hu]
 ·subst hx hy;simp [Op.equalIn,aB hu]
 · rcases hx with⟨h0,_⟩ | ⟨L,a,cap,_,rfl,_⟩
   ·omega
   ·subst hy;simp [Op.equalIn,aB hu]
theorem aGc {t:TypeId}{x y:AV}{cx cy:Value}{b:Bool}(he:aeq P t x y=some b)(hx:VR E x cx)(hy:VR E y cy) :
  (Op.equal t cx cy).run P w= .ok b w:=aMJ 9999 he hx hy
theorem aGd (d:Nat){t:TypeId}{ms:Array (String×TypeId)}(hu:P.underlying t=some (.interface ms)) : (Op.equalIn (d+1) t .nilIface .nilIface).run P w= .ok true w:=by
 simp [Op.equalIn,aB hu]
theorem aGe {t:TypeId}{x y:AV}{cx cy:Value}{b:Bool}(he:aeq P t x y=some b)(hx:VR E x cx)(hy:VR E y cy)(X Y:Operand)(op:BinOp) :
  (eqGuard op t X Y cx cy).run P w= .ok () w∧ (op= .eql→binOp op t cx cy= (do pure (.bool (←Op.equal t cx cy)))) ∧ (op= .neq→binOp op t cx cy= (do pure (.bool (!(←Op.equal t cx cy))))) :=by
 unfold aeq at he;split at he<;>cases he<;>simp only [VR]at hx hy<;>rename_i hu
 all_goals (first
  | (obtain⟨L,a,cap,_,rfl,_⟩ :=hx.resolve_left (fun h=>by have:=h.1;omega);subst hy;refine⟨?_,fun h=>by subst h;simp [binOp],fun h=>by subst h;simp [binOp]⟩;cases op<;>simp [eqGuard])
  | (subst hx hy;refine⟨?_,fun h=>by subst h;simp [binOp],fun h=>by subst h;simp [binOp]⟩;cases op<;>simp [eqGuard])
  | (obtain⟨L,_,rfl⟩ :=hy;subst hx;refine⟨?_,fun h=>by subst h;simp [binOp],fun h=>by subst h;simp [binOp]⟩;cases op<;>simp [eqGuard])
  | (obtain⟨L,_,rfl⟩ :=hx;subst hy;refine⟨?_,fun h=>by subst h;simp [binOp],fun h=>by subst h;simp [binOp]⟩;cases op<;>simp [eqGuard])
  | (obtain⟨u,rfl,_⟩ :=hy;subst hx;refine⟨?_,fun h=>by subst h;simp [binOp],fun h=>by subst h;simp [binOp]⟩;cases op<;>simp [eqGuard])
  | (obtain⟨u,rfl,_⟩ :=hx;subst hy;refine⟨?_,fun h=>by subst h;simp [binOp],fun h=>by subst h;simp [binOp]⟩;cases op<;>simp [eqGuard])
  | (obtain⟨a,b,rfl,_⟩ :=hy;subst hx;refine⟨?_,fun h=>by subst h;simp [binOp],fun h=>by subst h;simp [binOp]⟩;cases op<;>simp [eqGuard])
  | (obtain⟨a,b,rfl,_⟩ :=hx;subst hy;refine⟨?_,fun h=>by subst h;simp [binOp],fun h=>by subst h;simp [binOp]⟩;cases op<;>simp [eqGuard])
  | (obtain⟨L,off,cap,_,rfl,_⟩ :=hy;subst hx;refine⟨?_,fun h=>by subst h;simp [binOp],fun h=>by subst h;simp [binOp]⟩;cases op<;>simp [eqGuard])
  | (obtain⟨L,off,cap,_,rfl,_⟩ :=hx;subst hy;refine⟨?_,fun h=>by subst h;simp [binOp],fun h=>by subst h;simp [binOp]⟩;cases op<;>simp [eqGuard]))
theorem uX (op:BinOp)(t:TypeId)(X Y:Operand)(k k':IntKind)(a b:Int) : (eqGuard op t X Y (.int k a) (.int k' b)).run P w= .ok () w:=by
 cases op<;>simp [eqGuard]
theorem aJS (op:BinOp)(t:TypeId)(X Y:Operand)(a b:ByteArray) : (eqGuard op t X Y (.string a) (.string b)).run P w= .ok () w:=by
 cases op<;>simp [eqGuard]
theorem aMK {op:BinOp}{t:TypeId}{x y:AV}{cx cy:Value}{v:AV}(X Y:Operand)(hv:aYO P op t x y (isLit X) (isLit Y) =some v)(hx:VR E x cx)(hy:VR E y cy) :
  ∃cv,(do eqGuard op t X Y cx cy;binOp op t cx cy:Sem Value).run P w= .ok cv w∧VR E v cv:=by
 unfold aYO at hv;split at hv
 · rename_i k a k' b;simp only [VR]at hx hy;subst hx hy;split at hv
   · split at hv
     ·cases hv
     · rename_i hb;cases hv;exact⟨_,by simp [uX,binOp,Op.shift,hb];rfl,by simp [VR]⟩
   · split at hv
     ·cases hv
     · rename_i hb;cases hv;exact⟨_,by simp [uX,binOp,Op.shift,hb];rfl,by simp [VR]⟩
   · rename_i h1 h2;split at hv
     · rename_i hk;subst hk;obtain⟨cv,g1,g2⟩ :=aHl (P:=P) (w:=w) (E:=E) hv t h1 h2;exact⟨cv,by simp [uX,g1],g2⟩
     ·cases hv
 · rename_i l n l' n';simp only [VR]at hx hy;subst hx hy;obtain⟨cv,g1,g2⟩ :=aHn (P:=P) (w:=w) (E:=E) hv t;exact⟨cv,by simp [aJS,g1],g2⟩
 · simp only [VR]at hx hy;subst hx hy;cases hl: (isLit X||isLit Y)with
   |false=>rw [hl]at hv;cases hv
   | true=>
    rw [hl]at hv;simp only [cond]at hv;have hg: (eqGuard op t X Y .nilIface .nilIface).run P w= .ok () w:=by
     cases op<;>first| (simp [eqGuard];done) | (cases X<;>cases Y<;>first| (simp [eqGuard];done) | (simp [isLit]at hl))
    split at hv
    · rename_i hu;cases hv;refine⟨.bool true,?_,by simp [VR]⟩;have: (Op.equal t .nilIface .nilIface).run P w= .ok true w:=aGd 9999 hu;simp [hg,binOp,this]
    · rename_i hu;cases hv;refine⟨.bool false,?_,by simp [VR]⟩;have: (Op.equal t .nilIface .nilIface).run P w= .ok true w:=aGd 9999 hu;simp [hg,binOp,this]
    ·cases hv
 · split at hv
   · rename_i b hb;cases hv;obtain⟨g1,g2,_⟩ :=aGe (w:=w) hb hx hy X Y .eql;exact⟨.bool b,by simp [g1,g2,aGc hb hx hy],by simp [VR]⟩
   · rename_i b hb;cases hv;obtain⟨g1,_,g2⟩ :=aGe (w:=w) hb hx hy X Y .neq;exact⟨.bool (!b),by simp [g1,g2,aGc hb hx hy],by simp [VR]⟩
   ·cases hv
theorem aQM {op:UnOp}{x v:AV}{cx:Value}(hv:aun op x=some v)(hx:VR E x cx) :∃cv,(Op.unary op cx).run P w= .ok cv w∧VR E v cv:=by
 unfold aun at hv;split at hv<;>cases hv<;>simp only [VR]at hx<;>subst hx
 ·exact⟨_,by simp [Op.unary,Op.intArith];rfl,by simp [VR,yS]⟩
 ·exact⟨_,by simp [Op.unary];rfl,by simp [VR]⟩
theorem yV :∀ {vs:List AV} {n:Nat} {us:List Value},aC8 vs=some n→VRs E vs us →
  us= (aN vs.length n).map fun b=>.int .u8 (b.toNat:Int)
 | [],n,us,h,hv=>by simp [hv.nil_inv,aN]
 | a :: vs,n,us,h,hv=>by
  obtain⟨u,us',rfl,h1,h2⟩ :=hv.cons_inv;unfold aC8 at h;split at h
  ·rename_i hx;cases hx
  · rename_i m ws hx;cases hx;split at h
    · rename_i hm;split at h
      · rename_i k hk;cases h;simp only [VR]at h1;subst h1;have e1: (m.toNat+256*k) % 256=m.toNat:=by omega
        have e2: (m.toNat+256*k) / 256=k:=by omega
        simp only [List.length_cons,aN,map_cons,e1,e2];rw [yV hk h2];congr 1;simp;omega
      ·cases h
    ·cases h
  ·cases h
theorem aFP (bs:List UInt8)(f:Value→ByteArray→Sem (ForInStep ByteArray))(hf:∀ (b:UInt8) s,f (.int .u8 (b.toNat:Int)) s=pure (ForInStep.yield (s.push b))) :
  ∀ (s:ByteArray),(forIn (m:=Sem) (bs.map fun b=>Value.int .u8 (b.toNat:Int)) s f).run P w= .ok ⟨⟨s.data.toList++bs⟩⟩ w:=by
 induction bs with
 |nil=>intro s;simp
 | cons b bs ih=>
  intro s;simp only [map_cons,List.forIn_cons,Sem.run_bind,hf,Sem.run_pure,Result.andThen_ok];have:=ih (s.push b);simp at this ⊢;exact this
theorem run_bytesToString {a:Addr}{len cap:Nat}{bs:List UInt8}(h: (loadCells a len).run P w= .ok ⟨bs.map fun b=>Value.int .u8 (b.toNat:Int)⟩ w) :
  (Conv.bytesToString (.slice (some a) len cap)).run P w= .ok (.string ⟨⟨bs⟩⟩) w:=by
 simp only [Conv.bytesToString,Sem.run_bind,h,Result.andThen_ok]
 rw [show(⟨List.map (fun b:UInt8=>Value.int IntKind.u8 (b.toNat:Int)) bs⟩ :Array Value) = (List.map (fun b:UInt8=>Value.int IntKind.u8 (b.toNat:Int)) bs).toArray from rfl,List.forIn_toArray,
  aFP bs _ (fun b s=>by simp)]
 rfl
theorem aHo (n:Int)(h:0≤n∧n<128) :Utf8.encode n=fU 1 n.toNat:=by
 have hv:Utf8.valid n=true:=by simp [Utf8.valid];omega
 have hc:n.toNat<0x80:=by omega
 apply aAA;simp only [Utf8.encode,hv,if_true,hc,fU,aN];rw [show n.toNat % 256=n.toNat by omega]
theorem aDV (r:Rel E h w.heap){s d:TypeId}{x v:AV}{cx:Value}(hv:uM P h s d x=some v)(hx:VR E x cx) :
  ∃cv,(convert s d cx).run P w= .ok cv w∧VR E v cv:=by
 unfold uM at hv;split at hv
 · rename_i hs hd;cases hv;simp only [VR]at hx;subst hx;exact⟨_,by simp [convert,aB hs,aB hd,Conv.intToInt];rfl,by simp [VR,yS]⟩
 · rename_i hs hd;split at hv
   · rename_i hn;cases hv;simp only [VR]at hx;subst hx;exact⟨_,by simp [convert,aB hs,aB hd,Conv.intToString];rfl,by simp [VR,aHo _ hn]⟩
   ·cases hv
 · rename_i hs hd;cases hv;simp only [VR]at hx;subst hx;exact⟨_,by simp [convert,aB hs,aB hd];rfl,by simp [VR]⟩
 · rename_i e b off len cap esz x hs hd;split at hv
   · rename_i vs he hl;simp only [VR]at hx;obtain⟨L,off',cap',hE,rfl,h1,h2,h3,h4,h5⟩ :=hx;obtain⟨us,g1,g2,g3⟩ :=aDU r hl hE;unfold qW at hv;split at hv
     · rename_i n hn;cases hv;have hus:=yV hn g2;have hlen:vs.length=len:=by rw [←g2.length,g3]
       refine⟨.string (fU vs.length n),?_,by simp [VR]⟩;by_cases h0:cap'=0
       · -- an empty slice of no room:nothing is read
         have hl0:len=0:=by omega
         subst hl0;have: (loadCells ⟨L.blk,off',none⟩ 0).run P w= .ok ⟨(aN vs.length n).map fun b=>Value.int .u8 (b.toNat:Int)⟩ w:=by
          rw [hlen];simp [loadCells,loadCellsFrom,aN]
         simp only [convert,Sem.run_bind,aB hs,aB hd,Result.andThen_ok,aB he];exact run_bytesToString this
       · have:=h4 h0;subst this;simp only [convert,Sem.run_bind,aB hs,aB hd,Result.andThen_ok,aB he];exact run_bytesToString (by rw [g1 P,hus])
     ·cases hv
   ·cases hv
 ·cases hv
def OVR (E:Emb) :Option AV→Option Value→Prop
 |none,none=>True
 |some a,some c=>VR E a c
 |_,_=>False
def NVR :Option Nat→Option Value→Prop
 |none,none=>True
 |some n,some c=>∃k,c= .int k (n:Int)
 |_,_=>False
theorem rA {x:Option AV}{cx:Option Value}{m:Option Nat}(h:fG x=some m)(hx:OVR E x cx) :NVR m cx:=by
 unfold fG at h;split at h
 ·cases h;cases cx<;>simp_all [OVR,NVR]
 · split at h
   · rename_i hn;cases h;cases cx with
     |none=>exact hx
     |some c=>simp only [OVR,VR]at hx;exact⟨_,by rw [hx];congr 1;omega⟩
   ·cases h
 ·cases h
theorem iR (k:IntKind)(i:Nat)(y:Nat)(code:BoundsCode)(h1:i≤y) : (Instr.sliceBound (.int k (i:Int)) y code).run P w= .ok i w:=by
 have: (0:Int) ≤i∧ (i:Int) ≤y:=by omega
 simp [Instr.sliceBound,asIntOf,this]
theorem hY {isS:Bool}{len cap:Nat}{lo hi mx:Option Nat}{clo chi cmx:Option Value}(h1:NVR lo clo)(h2:NVR hi chi)(h3:NVR mx cmx)(hm:mx.isSome=true→hi.isSome=true)
  (a:lo.getD 0≤hi.getD len) (b:hi.getD len≤mx.getD cap) (c:mx.getD cap≤cap) :
  (Instr.sliceBounds isS len cap clo chi cmx).run P w= .ok (lo.getD 0,hi.getD len,mx.getD cap) w:=by
 cases lo<;>cases hi<;>cases mx<;>cases clo<;>cases chi<;>cases cmx<;>simp only [NVR]at h1 h2 h3<;>simp only [Option.isSome,getD]at hm a b c ⊢
 case some.some.some.some.some.some l h m _ _ _=>
  obtain⟨k1,rfl⟩ :=h1;obtain⟨k2,rfl⟩ :=h2;obtain⟨k3,rfl⟩ :=h3;simp [Instr.sliceBounds,iR _ _ _ _ c,iR _ _ _ _ b,iR _ _ _ _ a]
 case none.some.some.none.some.some=>
  obtain⟨k2,rfl⟩ :=h2;obtain⟨k3,rfl⟩ :=h3;simp [Instr.sliceBounds,iR _ _ _ _ c,iR _ _ _ _ b]
 case some.some.none.some.some.none=>
  obtain⟨k1,rfl⟩ :=h1;obtain⟨k2,rfl⟩ :=h2;simp [Instr.sliceBounds,iR _ _ _ _ b,iR _ _ _ _ a]
 case none.some.none.none.some.none=>
  obtain⟨k2,rfl⟩ :=h2;simp [Instr.sliceBounds,iR _ _ _ _ b]
 case some.none.none.some.none.none=>
  obtain⟨k1,rfl⟩ :=h1;simp [Instr.sliceBounds,iR _ _ _ _ a]
 case none.none.none.none.none.none=>simp [Instr.sliceBounds]
 all_goals (simp at hm)
theorem aHp {t:TypeId}{x v:AV}{cx:Value}{lo hi mx:Option Nat}{clo chi cmx:Option Value}(hv:rV P t x lo hi mx=some v)(hx:VR E x cx)
  (h1:NVR lo clo) (h2:NVR hi chi) (h3:NVR mx cmx) :∃cv,(Instr.sliceAt t cx clo chi cmx).run P w= .ok cv w∧VR E v cv:=by
 unfold rV at hv;split at hv
 · rename_i len n hu;split at hv
   ·cases hv
   · simp only at hv;cases hb: (ble (lo.getD 0) (hi.getD len) &&ble (hi.getD len) len)with
     |false=>rw [hb]at hv;cases hv
     | true=>
      rw [hb]at hv;simp only [cond]at hv;cases hv;simp only [iO,and_eq_true,decide_eq_true_eq]at hb;simp only [VR]at hx;subst hx;cases cmx with
      |some c=>exact h3.elim
      | none=>
       refine⟨.string ((fU len n).extract (lo.getD 0) (hi.getD len)),?_,by simp only [VR];rw [aHm _ _ _ _ hb.1 hb.2];rfl⟩;have:=hY (P:=P) (w:=w) (isS:=false) (len:=len) (cap:=len) h1 h2 (show NVR none none from trivial) (by simp) hb.1 (by simpa using hb.2) (le_refl _);simp [Instr.sliceAt,Instr.slice,aB hu,lO,this]
 · rename_i e b off len cap esz exact hu;simp only at hv;split at hv
   ·cases hv
   · rename_i sz hsz;cases hb: (beq sz esz&&ble (lo.getD 0) (hi.getD len) &&ble (hi.getD len) cap)with
     |false=>rw [hb]at hv;cases hv
     | true =>
      rw [hb]at hv;simp only [cond]at hv;simp only [iO,bH,and_eq_true,decide_eq_true_eq]at hb;obtain⟨⟨rfl,hb1⟩,hb2⟩ :=hb;simp only [VR]at hx;obtain⟨L,off',cap',hE,rfl,g1,g2,g3,g4,g5⟩ :=hx;cases mx with
      | some m =>cases hi with
       |none=>cases hv
       | some hh=>
        simp only at hv;cases hb: (ble (getD (some hh) len) m&&ble m cap)with
        |false=>rw [hb]at hv;cases hv
        | true =>
         rw [hb]at hv;simp only [cond]at hv;cases hv;simp only [iO,and_eq_true,decide_eq_true_eq,Option.getD_some]at hb hb1 hb2;have:=hY (P:=P) (w:=w) (isS:=true) (len:=len) (cap:=cap') h1 h2 h3 (by simp) (by simpa using hb1) (by simpa using hb.1) (by simp;omega);refine⟨.slice (if m=lo.getD 0 then some ⟨L.blk,off',none⟩else some ⟨L.blk,off'+lo.getD 0*sz,none⟩) (hh-lo.getD 0) (m-lo.getD 0),?_,?_⟩
         ·simp [Instr.sliceAt,Instr.slice,aB hu,this,bS hsz,eV]
         · simp only [VR];by_cases e1:m=lo.getD 0
           · rw [if_pos e1];have hcm:lo.getD 0*sz≤cap'*sz:=mul_le_mul_right _ (by omega);exact⟨L,off',m-lo.getD 0,hE,rfl,by simp;omega,by omega,fun _=>rfl,fun h0=>by omega,by rw [show m-lo.getD 0=0 by omega];omega⟩
           · rw [if_neg e1];have h0:cap'≠0:=by have:lo.getD 0≤hh:=hb1;omega
             have hcm:m*sz≤cap'*sz:=mul_le_mul_right _ (by omega);have e2:off'+lo.getD 0*sz+ (m-lo.getD 0) *sz=off'+m*sz:=by
              rw [add_assoc,←add_mul,show lo.getD 0+ (m-lo.getD 0) =m by have:lo.getD 0≤hh:=hb1;omega]
             exact⟨L,_,m-lo.getD 0,hE,rfl,by simp;omega,by omega,fun _=>rfl,fun _=>by rw [g4 h0];omega,by rw [e2];omega⟩
      | none =>
       simp only at hv;cases hv;cases cmx with
       |some c=>exact h3.elim
       | none =>
        have:=hY (P:=P) (w:=w) (isS:=true) (len:=len) (cap:=cap') h1 h2 (show NVR none none from trivial) (by simp) hb1 (by simp;omega) (le_refl _);refine⟨.slice (if cap'=lo.getD 0 then some ⟨L.blk,off',none⟩else some ⟨L.blk,off'+lo.getD 0*sz,none⟩) (hi.getD len-lo.getD 0) (cap'-lo.getD 0),?_,?_⟩
        ·simp [Instr.sliceAt,Instr.slice,aB hu,this,bS hsz,eV]
        · simp only [VR];by_cases e1:cap'=lo.getD 0
          · rw [if_pos e1];exact⟨L,off',cap'-lo.getD 0,hE,rfl,by omega,by omega,fun hx=>by rw [g3 hx],fun h0=>by omega,by rw [show cap'-lo.getD 0=0 by omega];omega⟩
          · rw [if_neg e1];have h0:cap'≠0:=by omega
            have e2:off'+lo.getD 0*sz+ (cap'-lo.getD 0) *sz=off'+cap'*sz:=by
             rw [add_assoc,←add_mul,show lo.getD 0+ (cap'-lo.getD 0) =cap' by omega]
            exact⟨L,_,cap'-lo.getD 0,hE,rfl,by omega,by omega,fun hx=>by rw [g3 hx],fun _=>by rw [g4 h0];omega,by rw [e2];omega⟩
 · rename_i e hu
   have key:∀ {sz},aW P e=some sz→ (mx.isSome=true→hi.isSome=true) → (bif beq (lo.getD 0) 0&&beq (hi.getD 0) 0&&beq (mx.getD 0) 0 then some AV.nils else none) =some v →
     ∃cv,(Instr.sliceAt t cx clo chi cmx).run P w= .ok cv w∧VR E v cv:=by
    intro sz hsz hmh hv;cases hb: (beq (lo.getD 0) 0&&beq (hi.getD 0) 0&&beq (mx.getD 0) 0)with
    |false=>rw [hb]at hv;cases hv
    | true=>
     rw [hb]at hv;simp only [cond]at hv;cases hv;simp only [bH,and_eq_true,decide_eq_true_eq]at hb;simp only [VR]at hx;subst hx;have:=hY (P:=P) (w:=w) (isS:=true) (len:=0) (cap:=0) h1 h2 h3 hmh (by omega) (by omega) (by omega);refine⟨.slice none 0 0,?_,by simp [VR]⟩;simp [Instr.sliceAt,Instr.slice,aB hu,this,bS hsz,hb]
   cases hsz:aW P e with
   |none=>rw [hsz]at hv;cases mx<;>cases hi<;>cases hv
   | some sz=>
    rw [hsz]at hv;cases mx with
    |none=>exact key hsz (fun h=>by cases h) hv
    | some m=>cases hi with
     |none=>cases hv
     |some hh=>exact key hsz (fun _=>rfl) hv
 ·cases hv
theorem aDW (off:Nat) :∀ (l:List Value) (k:Nat) (cs:Array Value),(l.zipIdx k).foldl (fun cs (p:Value×Nat) =>cs.setIfInBounds (off+p.2) p.1) cs=over cs (off+k) l
 | [],_,_=>rfl
 | v::l,k,cs=>by
  simp only [List.zipIdx_cons,List.foldl_cons,over];rw [aDW off l (k+1),add_assoc]
theorem sA {place:Nat→Option (Nat×Nat)}:∀ {ps:List (Nat×AV)} {qs:List (Nat×Value)} {acs cs:List AV} {ccs:Array Value},gV place acs ps=some cs →
  ps.map (·.1) =qs.map (·.1) →VRs E (ps.map (·.2)) (qs.map (·.2)) →VRs E acs ccs.toList→∃out,Instr.fill place ccs qs=some out∧VRs E cs out.toList
 | [],qs,acs,cs,ccs,hf,hk,_,ha=>by
  simp [gV]at hf;subst hf;have:qs= [] :=by cases qs with|nil=>rfl|cons _ _=>simp at hk
  subst this;exact⟨ccs,rfl,ha⟩
 | (i, a) ::ps,qs,acs,cs,ccs,hf,hk,hv,ha=>by
  cases qs with
  |nil=>simp at hk
  | cons q qs=>
   obtain⟨j,u⟩ :=q;simp only [map_cons,List.cons.injEq]at hk;obtain⟨rfl,hk⟩ :=hk;obtain⟨u',us,he,h1,h2⟩ :=hv.cons_inv;simp only [map_cons,List.cons.injEq]at he;obtain⟨rfl,rfl⟩ :=he;simp only [gV]at hf;split at hf
   ·cases hf
   · rename_i off size hp;cases hb: (beq a.cells.length size&&ble (off+size) acs.length)with
     |false=>rw [hb]at hf;cases hf
     | true =>
      rw [hb]at hf;simp only [cond]at hf;simp only [iO,bH,and_eq_true,decide_eq_true_eq]at hb;have hcl:u.cells.size=size:=by rw [←hb.1,←h1.cells.length];simp
      have hcs:ccs.size=acs.length:=by rw [←ha.length];simp
      have hnew:VRs E (acs.take off++a.cells++acs.drop (off+size)) (over ccs off u.cells.toList).toList:=by
       refine VRs.of_get (by simp [lQ];omega) fun k x hx=>?_;rw [Array.getElem?_toList,kW _ _ _ _ (by simp;omega)];simp only [Array.length_toList,hcl];by_cases k1:k<off
       · rw [List.append_assoc,getElem?_append_left (by simp;omega),List.getElem?_take_of_lt k1]at hx;rw [if_neg (by omega)];obtain⟨v,e1,e2⟩ :=ha.get k x hx;exact⟨v,by simpa using e1,e2⟩
       · by_cases k2:k<off+size
         · rw [getElem?_append_left (by simp;omega),getElem?_append_right (by simp;omega)]at hx;simp only [List.length_take]at hx;rw [show min off acs.length=off by omega]at hx;rw [if_pos (by omega)];exact h1.cells.get _ x hx
         · rw [getElem?_append_right (by simp;omega),List.getElem?_drop]at hx;simp only [length_append,List.length_take]at hx;rw [show off+size+ (k- (min off acs.length+a.cells.length)) =k by omega]at hx;rw [if_neg (by omega)];obtain⟨v,e1,e2⟩ :=ha.get k x hx;exact⟨v,by simpa using e1,e2⟩
      obtain⟨out,o1,o2⟩ :=sA hf hk h2 hnew;refine⟨out,?_,o2⟩;have:u.cells.zipIdx.foldl (fun cs (p:Value×Nat) =>cs.setIfInBounds (off+p.2) p.1) ccs=over ccs off u.cells.toList:=by
       rw [←Array.foldl_toList,Array.toList_zipIdx,aDW];rfl
      simp only [Instr.fill,hp];rw [if_neg (by simp;omega)];rw [←o1];exact congrArg (fun z=>Instr.fill place z qs) this
theorem aC3 (l:List Field)(hl:∀f∈l,∃n,aW P f.type=some n) :
  ((l.mapM fun f=>do pure (f.offset,←sizeOf f.type) :Sem (List (Nat×Nat)))).run P w= .ok (l.map fun f=> (f.offset,(aW P f.type).getD 0)) w:=by
 induction l with
 |nil=>simp
 | cons f l ih=>
  obtain⟨n,hn⟩ :=hl f (List.mem_cons_self ..);have:=ih (fun g hg=>hl g (List.mem_cons_of_mem _ hg));simp only [List.mapM_cons,Sem.run_bind,bS hn,Result.andThen_ok,Sem.run_pure,map_cons,hn,getD]at this ⊢;rw [this];rfl
theorem aHq {t:TypeId}{ps:List (Nat×AV)}{qs:Array (Nat×Value)}{v:AV}(hv:aME P t ps=some v)(hk:ps.map (·.1) =qs.toList.map (·.1))(hp:VRs E (ps.map (·.2)) (qs.toList.map (·.2))) :
  ∃cv,(Instr.build t qs).run P w= .ok cv w∧VR E v cv:=by
 unfold aME at hv;split at hv
 · rename_i z fs hz hu;obtain⟨cz,z1,z2⟩ :=gI hz;split at hv
   · rename_i cs hcs;cases hb: (fs.all fun f=> (aW P f.type).isSome)with
     |false=>rw [hb]at hv;cases hv
     | true=>
      rw [hb]at hv;simp only [cond]at hv;cases hv
      have hall:∀f∈fs.toList,∃n,aW P f.type=some n:=fun f hf=>by
       rw [Array.all_eq_true]at hb;obtain⟨i,hi,rfl⟩ :=List.getElem_of_mem hf;have:=hb i (by simpa using hi);exact Option.isSome_iff_exists.1 (by simpa using this)
      have hm: (fs.mapM fun f=>do pure (f.offset,←sizeOf f.type) :Sem (Array (Nat×Nat))).run P w= .ok (fs.map fun(f:Field) => (f.offset,(aW P f.type).getD 0)) w:=by
       rw [Array.mapM_eq_mapM_toList];simp only [Sem.run_map,aC3 (w:=w) fs.toList hall,Result.andThen_ok];refine congrArg (fun z=>Result.ok z w) ?_;apply Array.ext';simp
      obtain⟨out,o1,o2⟩ :=sA hcs hk hp (z2 E).cells;refine⟨.agg out,?_,by simp only [VR];exact⟨_,rfl,o2⟩⟩
      have hpl: (fun(i:Nat) => (fs.map fun(f:Field) => (f.offset,(aW P f.type).getD 0))[i]?) = (fun(i:Nat) =>match(fs[i]?:Option Field)with
        | some f=>match aW P f.type with
         |some s=>some (f.offset,s)
         |none=>none
        |none=>none) :=by
       funext i
       rw [Array.getElem?_map];cases hf:fs[i]? with
       |none=>rfl
       | some f=>
        have hmem:f∈fs.toList:=by
         have:=Array.getElem?_eq_some_iff.1 hf;obtain⟨hi,rfl⟩ :=this;simp
        obtain⟨n,hn⟩ :=hall f hmem;simp [hn]
      simp only [Instr.build,Sem.run_bind,z1,Result.andThen_ok,aB hu,hm];have o1':Instr.fill (fun(i:Nat) => (fs.map fun(f:Field) => (f.offset,(aW P f.type).getD 0))[i]?) cz.cells qs.toList=some out:=by
       rw [hpl];exact o1
      rw [o1'];rfl
   ·cases hv
 · rename_i z e n hz hu;obtain⟨cz,z1,z2⟩ :=gI hz;split at hv
   ·cases hv
   · rename_i s hs;split at hv
     · rename_i cs hcs;cases hv;obtain⟨out,o1,o2⟩ :=sA hcs hk hp (z2 E).cells;refine⟨.agg out,?_,by simp only [VR];exact⟨_,rfl,o2⟩⟩;simp only [Instr.build,Sem.run_bind,z1,Result.andThen_ok,aB hu,bS hs,o1];rfl
     ·cases hv
 ·cases hv
theorem mV (cs:List AV) :∀n,(kO cs n).length=n*cs.length
 |0=>by simp [kO]
 |n+1=>by rw [kO,length_append,mV cs n,Nat.succ_mul];omega
theorem aJT (cs:List AV)(h0:0<cs.length) :∀n i,i<n*cs.length→ (kO cs n)[i]?=cs[i % cs.length]?
 |0,i,h=>by simp at h
 | n+1,i,h=>by
  rw [kO];by_cases h1:i<cs.length
  ·rw [getElem?_append_left h1,Nat.mod_eq_of_lt h1]
  · rw [getElem?_append_right (by omega),aJT cs h0 n _ (by rw [Nat.succ_mul]at h;omega)];rw [←Nat.mod_eq_sub_mod (by omega)]
theorem aBK {zc:List AV}{z:Array Value}(hz:VRs E zc z.toList)(n:Nat)(h0:0<z.size) :
  VRs E (kO zc n) ((Array.range (n*z.size)).map (fun i=>z[i % z.size]!)).toList:=by
 have hl:=hz.length;simp only [Array.length_toList]at hl;refine VRs.of_get (by simp [mV,hl]) fun i a ha=>?_;have hi:i<n*zc.length:=by have:= (List.getElem?_eq_some_iff.1 ha).1;rwa [mV]at this
 rw [aJT _ (by omega) _ _ hi]at ha;obtain⟨v,h1,h2⟩ :=hz.get _ a ha;refine⟨v,?_,h2⟩;rw [Array.getElem?_toList,Array.getElem?_map,Array.getElem?_range];rw [←hl]at hi h1;simp only [hi,if_true,Option.map_some];simp only [Array.getElem?_toList]at h1;rw [Array.getElem!_eq_getD,Array.getD_eq_getD_getElem?,h1];rfl
theorem pT (r:Rel E h w.heap){t:TypeId}{len s:Nat}{ps:List (Nat×AV)}{qs:Array (Nat×Value)}{cs:List AV}(hv:pM P t len ps=some (cs,s))(hk:ps.map (·.1) =qs.toList.map (·.1))(hp:VRs E (ps.map (·.2)) (qs.toList.map (·.2))) :
  ∃ (out:List Value) (e:TypeId),VRs E cs out∧len*s≤out.length∧∀w,(Instr.buildSlice t len qs).run P w= .ok (.slice (some ⟨w.heap.size,0,none⟩) len len) {w with heap:=w.heap.push (.cells ⟨out⟩ e)}:=by
 unfold pM at hv;split at hv
 · rename_i e hu;split at hv
   · rename_i s' z hs hz;cases hb: (ble (len*s') 1000&& !(beq s' 0) &&beq z.cells.length s')with
     |false=>rw [hb]at hv;cases hv
     | true =>
      rw [hb]at hv;simp only [cond]at hv;simp only [iO,bH,and_eq_true,decide_eq_true_eq,Bool.not_eq_true',decide_eq_false_iff_not]at hb;split at hv
      · rename_i cs' hcs;cases hv;obtain⟨cz,z1,z2⟩ :=gI hz;have hzl:= (z2 E).cells.length;simp only [Array.length_toList]at hzl;have hzs:cz.cells.size=s:=by omega
        have zr:=aBK (z2 E).cells len (by omega);rw [hzs]at zr;obtain⟨out,o1,o2⟩ :=sA hcs hk hp zr;have hol:out.toList.length=len*s:=by
         have e1:=o2.length;have e2:∀ {ps:List (Nat×AV)} {place:Nat→Option (Nat×Nat)} {a b:List AV},gV place a ps=some b→b.length=a.length:=by
          intro ps
          induction ps with
          |nil=>intro place a b hh;simp [gV]at hh;rw [hh]
          | cons p ps ih=>
           intro place a b hh;simp only [gV]at hh;split at hh
           ·cases hh
           · rename_i off size _;cases hc: (beq p.2.cells.length size&&ble (off+size) a.length)with
             |false=>rw [hc]at hh;cases hh
             | true=>
              rw [hc]at hh;simp only [cond]at hh;simp only [iO,bH,and_eq_true,decide_eq_true_eq]at hc;rw [ih hh];simp;omega
         rw [e1,e2 hcs,mV];rw [hb.2]
        refine⟨out.toList,e,o2,by omega,fun w=>?_⟩;have hbig:¬len*s>2 ^ 24:=by omega
        by_cases h0:len*s=0
        · have hl0:len=0:=by
           rcases Nat.mul_eq_zero.1 h0 with h|h
           ·exact h
           ·omega
          subst hl0;have hr0:Array.range 0= #[] :=rfl;simp only [Nat.zero_mul,hr0,List.map_toArray,List.map_nil]at o1;simp [Instr.buildSlice,aB hu,bS hs,hr0,o1,newRow]
        · simp only [Instr.buildSlice,Sem.run_bind,aB hu,Result.andThen_ok,bS hs,hbig,if_false,Sem.run_pure,h0,z1];simp only [hzs];simp [o1,newRow]
      ·cases hv
   ·cases hv
 ·cases hv
theorem dV {r:Nat}{ES:Array MapEntry}{c:Nat}(hr:w.heap[r]?=some (.map ES c)) : (getObj r).run P w= .ok (.map ES c) w:=by
 simp [getObj,Sem.run,hr]
theorem oO {r:Nat}{ob ob':Obj}(hr:w.heap[r]?=some ob)(hc:∀c e f,ob≠ .cells c e f) : (setObj r ob').run P w= .ok () (bZ w r ob') :=by
 cases ob<;>simp [setObj,Sem.run,hr,bZ] <;>exact absurd rfl (hc _ _ _)
theorem aTn (a b:ByteArray) : (a==b) =decide (a=b) :=by
 cases a with|mk x=>cases b with|mk y=>
 show ByteArray.beq _ _=_;simp [ByteArray.beq,Bool.beq_eq_decide_eq]
theorem eJ {d:TypeDesc}{k:AV}{ck:Value}(h:plainKey d k=true)(hk:VR E k ck) :
  (∃i kk n,d= .int i∧k= .int kk n∧ck= .int kk n) ∨ (∃l n,d= .string∧k= .str l n∧ck= .string (fU l n)) ∨ (∃b,d= .bool∧k= .bool b∧ck= .bool b) :=by
 unfold plainKey at h;split at h
 ·simp only [VR]at hk;exact .inl ⟨_,_,_,rfl,rfl,hk⟩
 ·simp only [VR]at hk;exact .inr (.inl ⟨_,_,rfl,rfl,hk⟩)
 ·simp only [VR]at hk;exact .inr (.inr ⟨_,rfl,rfl,hk⟩)
 ·cases h
theorem run_checkKey {t:TypeId}{d:TypeDesc}{k:AV}{ck:Value}(e:Bool)(n:Nat)(hu:P.underlying t=some d)(hp:plainKey d k=true)(hk:VR E k ck) :
  (Instr.checkKey e (n+1) t ck).run P w= .ok () w:=by
 rcases eJ hp hk with⟨i,kk,m,rfl,rfl,rfl⟩ | ⟨l,m,rfl,rfl,rfl⟩ | ⟨b,rfl,rfl,rfl⟩ <;>simp [Instr.checkKey,aB hu]
theorem zS {d:TypeDesc}{k k':AV}{ck ck':Value}{b:Bool}(hp:plainKey d k=true)(hk:VR E k ck)(hk':VR E k' ck')(hc:oD k k'=some b) :
  Instr.sameNow d ck ck'=some b∧ (b=true→ck'=ck) :=by
 rcases eJ hp hk with⟨i,kk,m,rfl,rfl,rfl⟩ | ⟨l,m,rfl,rfl,rfl⟩ | ⟨b,rfl,rfl,rfl⟩
 · cases k'<;>simp only [oD]at hc<;>try (cases hc;done)
   split at hc
   · rename_i hkk;cases hc;simp only [VR]at hk';subst hkk hk';exact⟨by simp [Instr.sameNow],fun e=>by have:=beq_iff_eq.1 e;rw [this]⟩
   ·cases hc
 · cases k'<;>simp only [oD]at hc<;>try (cases hc;done)
   cases hc;simp only [VR]at hk';subst hk';refine⟨?_,fun e=>?_⟩
   · simp only [Instr.sameNow,wS,aTn];congr 2;apply propext;constructor
     ·intro e;have:=congrArg (fun s:ByteArray=>s.data.toList) e;exact this
     ·intro e;exact aAA e
   · rw [wS]at e;have:=of_decide_eq_true e;simp only [fU,this]
 · cases k'<;>simp only [oD]at hc<;>try (cases hc;done)
   cases hc;simp only [VR]at hk';subst hk';exact⟨by simp [Instr.sameNow],fun e=>by have:=beq_iff_eq.1 e;rw [this]⟩
theorem jW {d:TypeDesc}{k:AV}{ck:Value}(hp:plainKey d k=true)(hk:VR E k ck) :∀ {es:List (AV×AV×Nat)} {ES:List MapEntry} {i:Nat} {r:Option (Nat×AV)},ERs E es ES→oG k es i=some r →
  match r with
  |none=>Instr.findNow d ck ES i=some none
  |some (j,v) =>∃e ae,i≤j∧es[j-i]?=some ae∧ES[j-i]?=some e∧Instr.findNow d ck ES i=some (some (j,e.val)) ∧VR E v e.val∧ae.2.1=v∧e.key=ck
 | [],ES,i,r,he,hf=>by
  simp [ERs]at he;simp [oG]at hf;subst he hf;rfl
 | a ::es,ES,i,r,he,hf=>by
  simp only [ERs]at he;obtain⟨u,us,rfl,h1,h2,h3,h4⟩ :=he;simp only [oG]at hf;split at hf
  · rename_i hc;cases hf;obtain⟨g1,g2⟩ :=zS hp hk h1 hc;exact⟨u,a,le_refl _,by simp,by simp,by simp [Instr.findNow,g1],h2,rfl,g2 rfl⟩
  · rename_i hc;obtain⟨g1,_⟩ :=zS hp hk h1 hc;have:=jW hp hk h4 hf;cases r with
    |none=>simp only at this ⊢;simp [Instr.findNow,g1,this]
    | some jv=>
     obtain⟨j,v⟩ :=jv;simp only at this ⊢;obtain⟨e,ae,k1,k2,k3,k4,k5,k6,k7⟩ :=this;refine⟨e,ae,by omega,?_,?_,by simp [Instr.findNow,g1,k4],k5,k6,k7⟩
     ·rw [show j-i= (j-Nat.succ i) +1 by omega];simpa using k2
     ·rw [show j-i= (j-Nat.succ i) +1 by omega];simpa using k3
  ·cases hf
theorem ERs.length {es:List (AV×AV×Nat)}{ES:List MapEntry}(he:ERs E es ES) :ES.length=es.length:=by
 induction es generalizing ES with
 |nil=>simp [ERs]at he;subst he;rfl
 |cons a es ih=>simp only [ERs]at he;obtain⟨u,us,rfl,_,_,_,h4⟩ :=he;simp [ih h4]
theorem ERs.snoc {es:List (AV×AV×Nat)}{ES:List MapEntry}(he:ERs E es ES){k v:AV}{ck cv:Value}{b:Nat}(hk:VR E k ck)(hv:VR E v cv) :ERs E (es++ [(k,v,b)]) (ES++ [{key:=ck,val:=cv,born:=b}]) :=by
 induction es generalizing ES with
 |nil=>simp [ERs]at he;subst he;simp only [List.nil_append,ERs];exact⟨_,[],rfl,hk,hv,rfl,rfl⟩
 |cons a es ih=>simp only [ERs]at he;obtain⟨u,us,rfl,h1,h2,h3,h4⟩ :=he;simp only [List.cons_append,ERs];exact⟨u,_,rfl,h1,h2,h3,ih h4⟩
theorem ERs.setE {es:List (AV×AV×Nat)}{ES:List MapEntry}(he:ERs E es ES){k v:AV}{ck cv:Value}(hk:VR E k ck)(hv:VR E v cv)(i:Nat)(f:MapEntry→MapEntry)(hf:∀e,ES[i]?=some e→f e= {e with key:=ck,val:=cv}) :
  ERs E (Hb.setE k v es i) (ES.modify i f) :=by
 induction es generalizing ES i with
 |nil=>simp [ERs]at he;subst he;simp [Hb.setE,ERs]
 | cons a es ih=>
  simp only [ERs]at he;obtain⟨u,us,rfl,h1,h2,h3,h4⟩ :=he;cases i with
  | zero=>
   have:=hf u rfl;simp only [Hb.setE,List.modify_zero_cons,ERs,this];exact⟨_,us,rfl,hk,hv,h3,h4⟩
  | succ i=>
   simp only [Hb.setE,List.modify_succ_cons,ERs];exact⟨u,_,rfl,h1,h2,h3,ih h4 i (fun e he=>hf e (by simpa using he))⟩
theorem aQN {es:List (AV×AV×Nat)}{ES:List MapEntry}(he:ERs E es ES)(i:Nat)(e:MapEntry)(hi:ES[i]?=some e) :e.born=aDQ es i:=by
 induction es generalizing ES i with
 |nil=>simp [ERs]at he;subst he;simp at hi
 | cons a es ih=>
  simp only [ERs]at he;obtain⟨u,us,rfl,h1,h2,h3,h4⟩ :=he;cases i with
  |zero=>simp at hi;subst hi;exact h3
  |succ i=>exact ih h4 i (by simpa using hi)
theorem uY {d:TypeDesc}{k:AV}{ck:Value}(hp:plainKey d k=true)(hk:VR E k ck)(n:Nat) :Instr.sameBits n ck ck=true:=by
 rcases eJ hp hk with⟨i,kk,m,rfl,rfl,rfl⟩ | ⟨l,m,rfl,rfl,rfl⟩ | ⟨b,rfl,rfl,rfl⟩ <;>cases n<;>simp [Instr.sameBits,aTn]
theorem aDX {α:Type}{a:Array α}{i:Nat}{x:α}(h:a.toList[i]?=some x) :a[i]?=some x:=by simpa using h
theorem aFQ (r:Rel E h w.heap){t:TypeId}{x k v:AV}{cx ck:Value}{ok:Bool}(hv:aC9 P h t x k ok=some v)(hx:VR E x cx)(hk:VR E k ck) :
  ∃cv,(Instr.lookup t cx ck ok).run P w= .ok cv w∧VR E v cv:=by
 unfold aC9 at hv;split at hv
 · rename_i kt et hu;split at hv
   · rename_i kd z hkd hz;cases hp:plainKey kd k with
     |false=>rw [hp]at hv;cases hv
     | true =>
      rw [hp]at hv;simp only [cond]at hv;obtain⟨cz,z1,z2⟩ :=gI hz;have hck:∀e,(Instr.checkKey e 10000 kt ck).run P w= .ok () w:=fun e=>run_checkKey e 9999 hkd hp hk;split at hv
      · cases hv;simp only [VR]at hx;subst hx;refine⟨if ok then .tuple #[cz,.bool false]else cz,?_,?_⟩
        ·simp [Instr.lookup,aB hu,hck,Instr.findKey,aB hkd,Instr.findNow,z1]
        · cases ok
          ·exact z2 E
          ·simp only [VR,if_true];exact⟨_,rfl,VRs.cons (z2 E) (VRs.cons (by simp [VR]) (VRs.nil E))⟩
      · rename_i m;simp only [VR]at hx;obtain⟨L,hE,rfl⟩ :=hx;split at hv
        · rename_i es clock hm;obtain⟨L',g1,ES,g2,g3⟩ :=r.obj _ _ hm;rw [hE]at g1;cases g1;split at hv
          · rename_i i u hf;cases hv;have hfn:=jW hp hk g3 hf;simp only at hfn;obtain⟨e,ae,_,_,_,k4,k5,_⟩ :=hfn;refine⟨if ok then .tuple #[e.val,.bool true]else e.val,?_,?_⟩
            ·simp [Instr.lookup,aB hu,dV g2,hck,Instr.findKey,aB hkd,k4]
            · cases ok
              ·exact k5
              ·simp only [VR,if_true];exact⟨_,rfl,VRs.cons k5 (VRs.cons (by simp [VR]) (VRs.nil E))⟩
          · rename_i hf;cases hv;have hfn:=jW hp hk g3 hf;simp only at hfn;refine⟨if ok then .tuple #[cz,.bool false]else cz,?_,?_⟩
            ·simp [Instr.lookup,aB hu,dV g2,hck,Instr.findKey,aB hkd,hfn,z1]
            · cases ok
              ·exact z2 E
              ·simp only [VR,if_true];exact⟨_,rfl,VRs.cons (z2 E) (VRs.cons (by simp [VR]) (VRs.nil E))⟩
          ·cases hv
        ·cases hv
      ·cases hv
   ·cases hv
 ·cases hv
theorem aDY {m:Nat}{L:Loc}{es es':List (AV×AV×Nat)}{clock clock':Nat}{ES ES':Array MapEntry}(r:Rel E h w.heap)(hm:h.look m=some (.map es clock))(hE:E m=some L)
  (g2:w.heap[L.blk]?=some (.map ES clock)) (he:ERs E es' ES'.toList) :
  (∀P,(setObj L.blk (.map ES' clock')).run P w= .ok () (bZ w L.blk (.map ES' clock'))) ∧Rel E (h.set m (.map es' clock')) (bZ w L.blk (.map ES' clock')).heap ∧
   Ext E h w E (h.set m (.map es' clock')) (bZ w L.blk (.map ES' clock')) :=by
 have:=r.setObj (o':=.map es' clock') (.map ES' clock') hm hE rfl rfl (fun H' hH=> ⟨ES',hH,he⟩);exact⟨fun P=>oO g2 (fun _ _ _ e=>by cases e),this.1,this.2⟩
theorem qK {α:Type}(a:Array α)(i:Nat)(f:α→α) : (a.modify i f).toList=a.toList.modify i f:=by simp
theorem rB (r:Rel E h w.heap){t:TypeId}{x k v:AV}{cx ck cv:Value}(hu':oH P h t x k v=some h')(hx:VR E x cx)(hk:VR E k ck)(hv:VR E v cv) :
  ∃w',(Instr.mapUpdate t cx ck cv).run P w= .ok () w'∧Rel E h' w'.heap∧Ext E h w E h' w':=by
 unfold oH at hu';split at hu'
 · rename_i kt et m hu;split at hu'
   · rename_i kd es clock hkd hm;cases hp:plainKey kd k with
     |false=>rw [hp]at hu';cases hu'
     | true=>
      rw [hp]at hu';simp only [cond]at hu';simp only [VR]at hx;obtain⟨L,hE,rfl⟩ :=hx;obtain⟨L',g1,ES,g2,g3⟩ :=r.obj _ _ hm;rw [hE]at g1;cases g1;have hck:∀e,(Instr.checkKey e 10000 kt ck).run P w= .ok () w:=fun e=>run_checkKey e 9999 hkd hp hk;split at hu'
      · rename_i i u hf;cases hu';have hfn:=jW hp hk g3 hf;simp only [Nat.sub_zero]at hfn;obtain⟨e,ae,_,_,k3,k4,k5,_,k7⟩ :=hfn;have k3':=aDX k3;obtain⟨s1,s2,s3⟩ :=aDY (clock':=clock) (ES':=ES.modify i fun e=>{e with key:=ck,val:=cv}) r hm hE g2 (by rw [qK];exact g3.setE hk hv i _ (fun _ _=>rfl));refine⟨_,?_,s2,s3⟩;simp [Instr.mapUpdate,aB hu,dV g2,hck,Instr.findKey,aB hkd,k4,Instr.keyThatStays,k3',k7,uY hp hk,s1 P]
      · rename_i hf;cases hu';have hfn:=jW hp hk g3 hf;simp only at hfn;obtain⟨s1,s2,s3⟩ :=aDY (clock':=clock+1) (ES':=ES.push {key:=ck,val:=cv,born:=clock}) r hm hE g2 (by rw [Array.toList_push];exact g3.snoc hk hv);refine⟨_,?_,s2,s3⟩;simp [Instr.mapUpdate,aB hu,dV g2,hck,Instr.findKey,aB hkd,hfn,s1 P]
      ·cases hu'
   ·cases hu'
 ·cases hu'
theorem aC4 (r:Rel E h w.heap){t:TypeId}{x k v:AV}{cx ck:Value}(hu':wQ P h t x k=some (v,h'))(hx:VR E x cx)(hk:VR E k ck) :
  ∃cv w',(Instr.mapEntry t cx ck).run P w= .ok cv w'∧VR E v cv∧Rel E h' w'.heap∧Ext E h w E h' w':=by
 unfold wQ at hu';split at hu'
 · rename_i kt et m hu;split at hu'
   · rename_i kd es clock z hkd hm hz;cases hp:plainKey kd k with
     |false=>rw [hp]at hu';cases hu'
     | true=>
      rw [hp]at hu';simp only [cond]at hu';simp only [VR]at hx;obtain⟨L,hE,rfl⟩ :=hx;obtain⟨L',g1,ES,g2,g3⟩ :=r.obj _ _ hm;rw [hE]at g1;cases g1;obtain⟨cz,z1,z2⟩ :=gI hz;have hck:∀e,(Instr.checkKey e 10000 kt ck).run P w= .ok () w:=fun e=>run_checkKey e 9999 hkd hp hk;split at hu'
      · rename_i i u hf;cases hu';have hfn:=jW hp hk g3 hf;simp only [Nat.sub_zero]at hfn;obtain⟨e,ae,_,_,k3,k4,k5,_,k7⟩ :=hfn;have k3':=aDX k3
        obtain⟨s1,s2,s3⟩ :=aDY (clock':=clock) (ES':=ES.modify i fun e=>{e with key:=ck}) r hm hE g2 (by
         rw [qK];exact g3.setE hk k5 i _ (fun e' he'=>by rw [k3]at he';cases he';rfl))
        refine⟨.tuple #[e.val,.int .i64 (aDQ es i)],_,?_,by simp only [VR];exact⟨_,rfl,VRs.cons k5 (VRs.cons (by simp [VR]) (VRs.nil E))⟩,s2,s3⟩;simp [Instr.mapEntry,aB hu,dV g2,hck,Instr.findKey,aB hkd,k4,Instr.keyThatStays,k3',k7,uY hp hk,s1 P,goInt,aQN g3 i e k3]
      · rename_i hf;cases hu';have hfn:=jW hp hk g3 hf;simp only at hfn;obtain⟨s1,s2,s3⟩ :=aDY (clock':=clock+1) (ES':=ES.push {key:=ck,val:=cz,born:=clock}) r hm hE g2 (by rw [Array.toList_push];exact g3.snoc hk (z2 E));refine⟨.tuple #[cz,.int .i64 clock],_,?_,by simp only [VR];exact⟨_,rfl,VRs.cons (z2 E) (VRs.cons (by simp [VR]) (VRs.nil E))⟩,s2,s3⟩;simp [Instr.mapEntry,aB hu,dV g2,hck,Instr.findKey,aB hkd,hfn,s1 P,z1,goInt]
      ·cases hu'
   ·cases hu'
 ·cases hu'
theorem aDZ {v:AV}{cv:Value}(hv:VR E v cv){b:Nat}:∀ {es es':List (AV×AV×Nat)} {ES:List MapEntry},ERs E es ES→wP v b es=some es' →
  ∃i,ES.findIdx? (fun e=> (e.born:Int) == (b:Int)) =some i∧ERs E es' (ES.modify i fun e=>{e with val:=cv})
 | [],es',ES,he,hs=>by simp [wP]at hs
 | a :: es,es',ES,he,hs=>by
  simp only [ERs]at he;obtain⟨u,us,rfl,h1,h2,h3,h4⟩ :=he;simp only [wP,bH]at hs;by_cases hb:a.2.2=b
  · simp only [hb,decide_true,cond]at hs;cases hs;refine⟨0,by simp [List.findIdx?_cons,h3,hb],?_⟩;simp only [List.modify_zero_cons,ERs];exact⟨_,us,rfl,h1,hv,by simp [h3,hb],h4⟩
  · simp only [hb,decide_false,cond]at hs;split at hs
    · rename_i r hr;cases hs;obtain⟨i,e1,e2⟩ :=aDZ hv h4 hr;refine⟨i+1,?_,?_⟩
      · have: ((u.born:Int) == (b:Int)) =false:=by rw [h3];simp;omega
        simp [List.findIdx?_cons,this,e1]
      · simp only [List.modify_succ_cons,ERs];exact⟨u,_,rfl,h1,h2,h3,e2⟩
    ·cases hs
theorem aAB (r:Rel E h w.heap)(t:TypeId){x s v:AV}{cx cs cv:Value}(hu':pN h x s v=some h')(hx:VR E x cx)(hs:VR E s cs)(hv:VR E v cv) :
  ∃w',(Instr.entryStore t cx cs cv).run P w= .ok () w'∧Rel E h' w'.heap∧Ext E h w E h' w':=by
 unfold pN at hu';split at hu'
 · rename_i m k n;split at hu'
   · rename_i hn;split at hu'
     · rename_i es clock hm;split at hu'
       · rename_i es' hes;cases hu';simp only [VR]at hx hs;subst hs;obtain⟨L,hE,rfl⟩ :=hx;obtain⟨L',g1,ES,g2,g3⟩ :=r.obj _ _ hm;rw [hE]at g1;cases g1;obtain⟨i,e1,e2⟩ :=aDZ hv g3 hes;have hnn: ((n.toNat:Nat) :Int) =n:=by omega
         rw [hnn]at e1;obtain⟨s1,s2,s3⟩ :=aDY (clock':=clock) (ES':=ES.modify i fun e=>{e with val:=cv}) r hm hE g2 (by rw [qK];exact e2);refine⟨_,?_,s2,s3⟩;have e1':ES.findIdx? (fun e=> (e.born:Int) ==n) =some i:=by cases ES;simpa using e1
         simp [Instr.entryStore,dV g2,asInt,asIntOf,e1',s1 P]
       ·cases hu'
     ·cases hu'
   ·cases hu'
 ·cases hu'
inductive Adds (P:Program) (w:World) (at1:TypeId) (e:TypeId) (sz:Nat) :Value→List Value→Nat→Prop
 | slice (a:Addr) (n c:Nat) (us:List Value) (d:TypeDesc) (hd:P.underlying at1=some d) (hi:∀k,d≠ .int k) (hl:∀w1:World,w1.heap=w.heap→ (loadCells a (n*sz)).run P w1= .ok ⟨us⟩ w1) :
   Adds P w at1 e sz (.slice (some a) n c) us n
 |nil (d:TypeDesc) (hd:P.underlying at1=some d) (hi:∀k,d≠ .int k) :Adds P w at1 e sz (.slice none 0 0) [] 0
 | zeros (l:Int) (n:Nat) (z:Value) (k:IntKind) (inf:TypeInfo) (us:List Value) (hd:P.underlying at1=some (.int k)) (hl:l= (n:Int)) (hn:n<100000) (hi:P.info? e=some inf) (hb:inf.bytes≤1000)
   (hz:∀w,(zeroValue e).run P w= .ok z w) (hus:us= (Builtin.zeroCells z.cells n).toList) (hs:z.cells.size=sz) (h1:1≤sz) :Adds P w at1 e sz (.int .i64 l) us n
theorem wrap_small {n:Nat}(h:n<100000) :IntKind.i64.wrap (n:Int) =n:=by
 simp [IntKind.wrap,IntKind.bits,IntKind.signed];omega
set_option maxRecDepth 100000 in
theorem run_append_room {argTypes:Array TypeId}{ty st at1 e:TypeId}{sz len cap n:Nat}{base:Option Addr}{cx:Value}{us:List Value}(hA:Adds P w at1 e sz cx us n)
  (h0:argTypes[0]?=some st) (h1:argTypes[1]?=some at1) (hu:P.underlying st=some (.slice e)) (hs:aW P e=some sz) (hcap:len+n≤cap)
  (hst:match base with|some a=> (storeCells (a.add (len*sz)) us).run P w= .ok () w'|none=>w'=w) :
  (Builtin.append_ argTypes ty #[.slice base len cap,cx]).run P w= .ok (.slice base (len+n) cap) w':=by
 have e0: (#[Value.slice base len cap,cx] :Array Value)[0]?=some (.slice base len cap) :=rfl;have e1: (#[Value.slice base len cap,cx] :Array Value)[1]?=some cx:=rfl;unfold Builtin.append_;cases hA with
 | slice a n c us d hd hi hl=>
  have:=hl w rfl;simp only [h0,h1,e0,e1,Sem.run_bind,aB hu,bS hs,aB hd,Result.andThen_ok,Sem.run_pure,false_eq_true,if_false,if_true,Builtin.lenOf,Builtin.firstCells,hcap,Bool.not_false,this];cases base with
  |none=>simp only at hst;subst hst;simp only [Sem.run_pure]
  |some a=>simp only at hst;simp only [Sem.run_bind,hst,Result.andThen_ok,Sem.run_pure]
 | nil d hd hi=>
  simp only [h0,h1,e0,e1,Sem.run_bind,aB hu,bS hs,aB hd,Result.andThen_ok,Sem.run_pure,false_eq_true,if_false,if_true,Builtin.lenOf,Builtin.firstCells,hcap,Bool.not_false];cases base with
  |none=>simp only at hst;subst hst;simp only [Sem.run_pure]
  |some a=>simp only at hst;simp only [Sem.run_bind,hst,Result.andThen_ok,Sem.run_pure]
 | zeros l n z k inf us hd hl hn hi hb hz hus hs' h1'=>
  subst hl;have hw:=wrap_small hn;have hneg:¬ ((n:Int) <0) :=by omega
  have hbig:¬ ((n:Int) * (inf.bytes:Int) >2 ^ 48) :=by
   have h3:n*inf.bytes≤100000*1000:=mul_le_mul (by omega) hb;rw [←Int.natCast_mul];generalize n*inf.bytes=q at h3;omega
  simp only [h0,h1,e0,e1,Sem.run_bind,aB hu,bS hs,aB hd,Result.andThen_ok,Sem.run_pure];simp only [if_true,Sem.run_bind,aBJ,Result.andThen_ok];simp only [hw,hneg,if_false];simp only [Sem.run_bind,cS hi,Result.andThen_ok];rw [if_neg hbig];simp only [Sem.run_bind,Sem.run_pure,Result.andThen_ok,Int.toNat_natCast];rw [if_pos hcap];simp only [Bool.not_true,false_eq_true,if_false,Sem.run_bind];have hnew: (if n*sz=0 then pure #[]else do let __do_lift ←zeroValue e;pure (Builtin.zeroCells __do_lift.cells n) :Sem (Array Value)).run P w= .ok ⟨us⟩ w:=by
   by_cases h0:n*sz=0
   · have hn0:n=0:=by
      rcases Nat.mul_eq_zero.1 h0 with h|h
      ·exact h
      ·omega
     subst hn0;have:us= [] :=by rw [hus];simp [Builtin.zeroCells]
     subst this;simp
   ·simp only [h0,if_false,Sem.run_bind,hz,Result.andThen_ok,Sem.run_pure,hus]
  simp only [hnew,Result.andThen_ok];cases base with
  |none=>simp only at hst;subst hst;simp only [Sem.run_pure]
  |some a=>simp only at hst;simp only [Sem.run_bind,hst,Result.andThen_ok,Sem.run_pure]
theorem aGf (n:Nat) :∀ (r c:Nat),c≤n→Builtin.growBy n r c≤2*n+1000
 |0,c,h=>by simp [Builtin.growBy];omega
 | r+1,c,h=>by
  simp only [Builtin.growBy];split
  ·omega
  · by_cases h2:c+ (c+768) / 4≤n
    ·exact aGf n r _ h2
    · cases r with
      |zero=>simp [Builtin.growBy];omega
      |succ r=>simp only [Builtin.growBy];rw [if_pos (by omega)];omega
theorem aML {need cap:Nat}(h:cap<need) :Builtin.nextslicecap need cap≤2*need+1000:=by
 unfold Builtin.nextslicecap;split
 ·omega
 · split
   ·omega
   ·exact aGf need 4 cap (by omega)
set_option maxRecDepth 100000 in
set_option maxHeartbeats 1000000 in
theorem run_append_grow {argTypes:Array TypeId}{ty st at1 e:TypeId}{sz len cap n:Nat}{base:Option Addr}{cx:Value}{us os:List Value}(hA:Adds P w at1 e sz cx us n){z:AV}(hz:zeroOf P e=some z)
  {inf:TypeInfo} (hinf:P.info? e=some inf) (hb1:1≤inf.bytes) (hb2:inf.bytes≤1000)
  (h0:argTypes[0]?=some st) (h1:argTypes[1]?=some at1) (hu:P.underlying st=some (.slice e)) (hs:aW P e=some sz) (hcap:¬len+n≤cap) (hsm:len+n≤3000000)
  (hold:∀w1:World,w1.heap=w.heap→ (Builtin.firstCells sz len (.slice base len cap)).run P w1= .ok ⟨os⟩ w1) :
  ∃ newCap rest d,len+n≤newCap∧rest.length= (newCap- (len+n)) *z.cells.length ∧
   (Builtin.append_ argTypes ty #[.slice base len cap,cx]).run P w= .ok (.slice (some ⟨w.heap.size,0,none⟩) (len+n) newCap) {w with drawn:=d,heap:=w.heap.push (.cells ⟨os++us++rest⟩ e)}:=by
 have e0: (#[Value.slice base len cap,cx] :Array Value)[0]?=some (.slice base len cap) :=rfl;have e1: (#[Value.slice base len cap,cx] :Array Value)[1]?=some cx:=rfl;obtain⟨cz,z1,z2⟩ :=gI hz;have hzl:cz.cells.size=z.cells.length:=by have:= (z2 ⟨fun _=>none,fun _=>none⟩).cells.length;simpa using this
 have hng:Builtin.nextslicecap (len+n) cap*inf.bytes≤2 ^ 48:=by
  have e1:=aML (need:=len+n) (cap:=cap) (by omega);have e2:Builtin.nextslicecap (len+n) cap*inf.bytes≤6001000*1000:=mul_le_mul (by omega) hb2;omega
 have hngt:¬Builtin.nextslicecap (len+n) cap*inf.bytes>2 ^ 48:=by omega
 have hb0:¬inf.bytes=0:=by omega
 have hmx:¬ (((len+n:Nat) :Int) >IntKind.i64.max) :=by simp [IntKind.max,IntKind.signed,IntKind.bits];omega
 have hq: (Question.appendCap (len+n) cap e).forced=false:=rfl;obtain⟨d,hd⟩ :∃d,d=w.drawn+1:= ⟨_,rfl⟩;obtain⟨nc,hnc⟩ :∃nc,nc= (Question.appendCap (len+n) cap e).cut (w.tape w.drawn (.appendCap (len+n) cap e)) := ⟨_,rfl⟩;have hle:len+n≤nc:=by rw [hnc];simp only [Question.cut];omega
 have hch: (choose (.appendCap (len+n) cap e)).run P w= .ok nc {w with drawn:=d}:=by
  simp only [run_choose,hq,hnc,hd];rfl
 have arr:∀ (us:List Value) (X:Array Value),(⟨os⟩ ++ ⟨us⟩ ++X:Array Value) = ⟨os++us++X.toList⟩ :=fun us X=>by apply Array.ext';simp
 have hold':=hold {w with drawn:=d} rfl;refine⟨nc,(Builtin.zeroCells cz.cells (nc- (len+n))).toList,d,hle,by simp [Builtin.zeroCells,hzl],?_⟩;unfold Builtin.append_;cases hA with
 | slice a n c us t hd' hi hl=>
  have hnew: (Builtin.firstCells sz n (Value.slice (some a) n c)).run P {w with drawn:=d}= .ok ⟨us⟩ {w with drawn:=d}:=by simpa [Builtin.firstCells]using hl {w with drawn:=d} rfl
  simp only [h0,h1,e0,e1,Sem.run_bind,aB hu,bS hs,aB hd',Result.andThen_ok,Sem.run_pure,false_eq_true,if_false,Builtin.lenOf];rw [if_neg hcap];simp only [Sem.run_bind,cS hinf,Result.andThen_ok];rw [if_neg (fun h=>by rcases h.2 with h|h<;>first|exact hb0 h|cases h)];simp only [Sem.run_bind,cS hinf,Result.andThen_ok];rw [if_neg hngt];simp only [Sem.run_bind,hch,Result.andThen_ok,cS hinf,run_askRoom,hold',Bool.not_false,if_true,hnew,z1,newRow,run_newObj,Sem.run_pure,arr]
 | nil t hd' hi=>
  simp only [h0,h1,e0,e1,Sem.run_bind,aB hu,bS hs,aB hd',Result.andThen_ok,Sem.run_pure,false_eq_true,if_false,Builtin.lenOf];rw [if_neg hcap];simp only [Sem.run_bind,cS hinf,Result.andThen_ok];rw [if_neg (fun h=>by rcases h.2 with h|h<;>first|exact hb0 h|cases h)];simp only [Sem.run_bind,cS hinf,Result.andThen_ok];rw [if_neg hngt];have hnew: (Builtin.firstCells sz 0 (Value.slice none 0 0)).run P {w with drawn:=d}= .ok ⟨[]⟩ {w with drawn:=d}:=by simp [Builtin.firstCells]
  simp only [Sem.run_bind,hch,Result.andThen_ok,cS hinf,run_askRoom,hold',Bool.not_false,if_true,hnew,z1,newRow,run_newObj,Sem.run_pure,arr]
 | zeros l n z' k inf' us hd' hl hn hi hb hz' hus hs' h1'=>
  subst hl;rw [hinf]at hi;cases hi;have hw:=wrap_small hn;have hneg:¬ ((n:Int) <0) :=by omega
  have hbig:¬ ((n:Int) * (inf.bytes:Int) >2 ^ 48) :=by
   have h3:n*inf.bytes≤100000*1000:=mul_le_mul (by omega) hb;rw [←Int.natCast_mul];generalize n*inf.bytes=q at h3;omega
  have hnew:∀w,(if n*sz=0 then pure #[]else do let __do_lift ←zeroValue e;pure (Builtin.zeroCells __do_lift.cells n) :Sem (Array Value)).run P w= .ok ⟨us⟩ w:=fun w=>by
   by_cases h0:n*sz=0
   · have hn0:n=0:=by
      rcases Nat.mul_eq_zero.1 h0 with h|h
      ·exact h
      ·omega
     subst hn0;have:us= [] :=by rw [hus];simp [Builtin.zeroCells]
     subst this;simp
   ·simp only [h0,if_false,Sem.run_bind,hz',Result.andThen_ok,Sem.run_pure,hus]
  simp only [h0,h1,e0,e1,Sem.run_bind,aB hu,bS hs,aB hd',Result.andThen_ok,Sem.run_pure];simp only [if_true,Sem.run_bind,aBJ,Result.andThen_ok];simp only [hw,hneg,if_false];simp only [Sem.run_bind,cS hinf,Result.andThen_ok];rw [if_neg hbig];simp only [Sem.run_bind,Sem.run_pure,Result.andThen_ok,Int.toNat_natCast];rw [if_neg hcap];simp only [Sem.run_bind,cS hinf,Result.andThen_ok];rw [if_neg (fun h=>hmx h.1)];simp only [Sem.run_bind,cS hinf,Result.andThen_ok];rw [if_neg hngt];simp only [Sem.run_bind,hch,Result.andThen_ok,cS hinf,run_askRoom,hold',Bool.not_true,false_eq_true,if_false,hnew,z1,newRow,run_newObj,Sem.run_pure,arr]
theorem aJU (r:Rel E h w.heap){argTypes:Array TypeId}{e:TypeId}{sz n:Nat}{x:AV}{cx:Value}{vs:List AV}(ha:aAx P h argTypes e sz x=some (vs,n))(hx:VR E x cx)
  {inf:TypeInfo} (hinf:P.info? e=some inf) (hb:inf.bytes≤1000) (h1:1≤sz) :
  ∃at1 us,argTypes[1]?=some at1∧Adds P w at1 e sz cx us n∧VRs E vs us∧us.length=n*sz:=by
 unfold aAx at ha;split at ha
 ·cases ha
 · rename_i xt hxt;split at ha
   · rename_i k l hu;split at ha
     · rename_i hl;split at ha
       · rename_i z hz;cases hc: (beq z.cells.length sz&& !(beq sz 0))with
         |false=>rw [hc]at ha;cases ha
         | true=>
          rw [hc]at ha;simp only [cond]at ha;cases ha;simp only [bH,and_eq_true,decide_eq_true_eq]at hc;obtain⟨cz,z1,z2⟩ :=gI hz;have hzl:= (z2 E).cells.length;simp only [Array.length_toList]at hzl;simp only [VR]at hx;subst hx;have hzs:cz.cells.size=sz:=by omega
          refine⟨xt,_,hxt,.zeros l l.toNat cz k inf _ hu (by omega) (by omega) hinf hb z1 rfl hzs h1,aBK (z2 E).cells _ (by omega),by simp [Builtin.zeroCells,hzs]⟩
       ·cases ha
     ·cases ha
   ·cases ha
   · rename_i d hni hu;cases ha;simp only [VR]at hx;subst hx;exact⟨xt,[],hxt,.nil d hu (fun k e=>by subst e;exact hni k rfl),VRs.nil E,by simp⟩
   · rename_i d b off len cap esz ex hni hu;cases hc:beq esz sz with
     |false=>rw [hc]at ha;cases ha
     | true =>
      rw [hc]at ha;simp only [cond]at ha;have:=Nat.eq_of_beq_eq_true hc;subst this;split at ha
      · rename_i us hus;cases ha;simp only [VR]at hx;obtain⟨L,off',cap',hE,rfl,g1,g2,g3,g4,g5⟩ :=hx;by_cases h0:cap'=0
        · have hn0:n=0:=by omega
          subst hn0;have hvs:vs= [] :=by
           unfold Hp.loadN at hus;split at hus
           ·simp [getCells]at hus;exact hus
           ·cases hus
          subst hvs;exact⟨xt,[],hxt,.slice _ _ _ _ d hu (fun k e=>by subst e;exact hni k rfl) (fun w1 _=>by simp [loadCells,loadCellsFrom]),VRs.nil E,by simp⟩
        · obtain⟨us,k1,k2,k3⟩ :=uT r hus hE;have:=g4 h0;subst this;exact⟨xt,us,hxt,.slice _ _ _ _ d hu (fun k e=>by subst e;exact hni k rfl) (fun w1 hw=>k1 P w1 hw),k2,k3⟩
      ·cases ha
   ·cases ha
theorem Rel.inplace (r:Rel E h w.heap){b off m k:Nat}{t T':T AV}{older:List Nat}(hb:h.look b=some (.cells t k older false)){L:Loc}(hE:E b=some L)
  {vs:List AV} {us:List Value} (hv:VRs E vs us) (ho:cJ vs=true) (hk:k≤off+m) (hfit:L.sh+off+m+vs.length≤L.sz)
  (hT:∀i a,T'.at i=some a→i<m+vs.length∧ (if i<m then t.at (off+i) =some a else vs[i-m]?=some a)) (e:Nat) (he:e=L.sh+off+m) :
  ∃ w',(∀P,(storeCells ⟨L.blk,e,none⟩ us).run P w= .ok () w') ∧
   Rel (E.put h.nb ⟨L.blk,L.sh+off,L.sz⟩) ((h.set b (.cells t k older true)).new (.cells T' (m+vs.length) (b::older) false)) w'.heap ∧
   Ext E h w (E.put h.nb ⟨L.blk,L.sh+off,L.sz⟩) ((h.set b (.cells t k older true)).new (.cells T' (m+vs.length) (b::older) false)) w':=by
 subst he;obtain⟨L',g1,C,e,g2,g3,g4⟩ :=r.obj _ _ hb;rw [hE]at g1;cases g1;have hf:E h.nb=none:=r.fresh _ (le_refl _);have hbn:b≠h.nb:=fun e=>by rw [e,hf]at hE;cases hE
 have hle:E.le (E.put h.nb ⟨L.blk,L.sh+off,L.sz⟩) :=Emb.le_put hf;have hul:=hv.length
 have kins:∀ {x ox Lx},h.look x=some ox→E x=some Lx→x≠b→Own ox Lx L.blk→x∈older∧hU ox=true∧Lx.sh+nOf ox≤L.sh+k:=fun hx hEx hne hbl=>by
  rcases r.kin _ _ _ _ _ _ hb hx hE hEx ⟨_,rfl,hbl⟩ (fun e=>hne e.symm)with h2| ⟨_,h2,_⟩
  ·exact h2
  ·cases h2
 have still:∀ {ox:AObj} {Lx:Loc},hU ox=true→Lx.sh+nOf ox≤L.sh+k→Own ox Lx L.blk→OR E w.heap Lx ox→OR (E.put h.nb ⟨L.blk,L.sh+off,L.sz⟩) (bZ w L.blk (.cells (over C (L.sh+off+m) us) e (0,0))).heap Lx ox:=by
  intro ox Lx hsup hn hbl ho;cases ox with
  |zone w0 r0 Z=>cases hsup
  | cells tx nx kx sx=>
   have hbl:Lx.blk=L.blk:=hbl;obtain⟨C',e',k2,k3,k4⟩ :=ho;rw [hbl,g2]at k2;cases k2;refine⟨_,e,by rw [hbl];exact oN g2,by rw [lQ];exact k3,fun i a ha=>?_⟩;obtain⟨q0,v,q1,q2⟩ :=k4 i a ha;refine⟨q0,v,?_,q2.mono hle⟩;simp only [nOf]at hn;rw [kW _ _ _ _ (by omega),if_neg (by omega)];exact q1
  |map es c=>have hbl:Lx.blk=L.blk:=hbl;obtain⟨ES,k2,_⟩ :=ho;rw [hbl,g2]at k2;cases k2
  |siter l n p=>have hbl:Lx.blk=L.blk:=hbl;obtain⟨k2,_⟩ :=ho;rw [hbl,g2]at k2;cases k2
  |loop st pe fn tm nt ps aS bd df=>have hbl:Lx.blk=L.blk:=hbl;obtain⟨_,_,k2,_⟩ :=ho;rw [hbl,g2]at k2;cases k2
  |defd tk=>have hbl:Lx.blk=L.blk:=hbl;simp only [OR]at ho;rw [hbl,g2]at ho;cases ho
  |lst ee xs=>cases hsup
  |lstv u ee xs=>cases hsup
  |miter m s l n=>have hbl:Lx.blk=L.blk:=hbl;obtain⟨_,k2,_⟩ :=ho;rw [hbl,g2]at k2;cases k2
  |mapx es c k v=>have hbl:Lx.blk=L.blk:=hbl;obtain⟨ES,k2,_⟩ :=ho;rw [hbl,g2]at k2;cases k2
 have hks:∀x ox,((h.set b (.cells t k older true)).new (.cells T' (m+vs.length) (b::older) false)).look x=some ox→x=h.nb∨∃o0,h.look x=some o0:=fun x ox e=>by
  rw [cC,hX]at e;split at e
  ·rename_i hx;exact .inl hx
  · rw [aX]at e;split at e
    ·rename_i hx;subst hx;exact .inr ⟨_,hb⟩
    ·exact .inr ⟨ox,e⟩
 refine⟨bZ w L.blk (.cells (over C (L.sh+off+m) us) e (0,0)),fun P=>?_,⟨?_,?_,?_,r.imm_put hb hE _,?_,fun x ox e=>by
  rw [nC,hX];rcases hks x ox e with rfl| ⟨o0,e0⟩
  ·omega
  ·have:=r.keys x o0 e0;omega⟩,⟨hle,by simp [bZ],?_,?_,by simp [nC,hX],rfl,rfl,rfl,fun x hx=>Emb.put_ne _ _ (by omega),(fun a _=>rZ g2 rfl rfl a),fun _ _ e _=>.inl e,fun x ox e hx=> (hks x ox e).resolve_left (by omega)⟩⟩
 · have:=kX (P:=P) us (w:=w) (b:=L.blk) (k:=L.sh+off+m) (i:=0) g2 (by omega) (hv.ones ho);simpa using this
 · intro x ox ex;rw [cC,hX]at ex;split at ex
   · rename_i hx;cases ex;subst hx;refine .inr ⟨_,Emb.put_same _ _ _,over C (L.sh+off+m) us,e,oN g2,by rw [lQ];exact g3,fun i a ha=>?_⟩;obtain⟨q0,q1⟩ :=hT i a ha;refine⟨q0,?_⟩;by_cases hi:i<m
     · rw [if_pos hi]at q1;obtain⟨_,v,p1,p2⟩ :=g4 _ _ q1;refine⟨v,?_,p2.mono hle⟩;rw [kW _ _ _ _ (by omega),if_neg (by simp only;omega)];rw [←p1];congr 1;simp only;omega
     · rw [if_neg hi]at q1;obtain⟨v,p1,p2⟩ :=hv.get _ _ q1;refine⟨v,?_,p2.mono hle⟩;rw [kW _ _ _ _ (by omega),if_pos (by simp only;omega)];rw [←p1];congr 1;simp only;omega
   · rename_i hx;rw [aX]at ex;split at ex
     · rename_i hxb;cases ex;subst hxb;refine .inr ⟨L,by rw [Emb.put_ne _ _ hx];exact hE,?_⟩;exact still (ox:=.cells t k older true) rfl (by simp [nOf]) rfl ⟨C,e,g2,g3,g4⟩
     · rename_i hxb;rcases r.obj0 x ox ex with⟨u1,u2⟩ | ⟨Lx,k1,k2⟩
       ·exact .inl ⟨u1,by rw [Emb.put_ne _ _ hx];exact u2⟩
       refine .inr ⟨Lx,by rw [Emb.put_ne _ _ hx];exact k1,?_⟩;by_cases hbl:Own ox Lx L.blk
       ·exact still (kins ex k1 hxb hbl).2.1 (kins ex k1 hxb hbl).2.2 hbl k2
       ·exact(k2.mono hle).heap fun i hi=>by simp only [bZ];rw [Array.getElem?_setIfInBounds_ne (fun e:L.blk=i=>hbl (by rw [e];exact hi))]
 · intro x y ox oy Lx Ly ex ey kx ky hbl hne;rw [cC,hX]at ex ey;have newOne:∀ {y oy Ly},y≠h.nb→ (h.set b (.cells t k older true)).look y=some oy→E y=some Ly→Own oy Ly L.blk→y∈b::older∧hU oy=true∧Ly.sh+nOf oy≤L.sh+off+ (m+vs.length) :=by
    intro y oy Ly hy ey ky hbl;rw [aX]at ey;split at ey
    · rename_i hyb;cases ey;subst hyb;rw [hE]at ky;cases ky;exact⟨List.mem_cons_self ..,rfl,by simp [nOf];omega⟩
    · rename_i hyb;obtain⟨q1,q2,q3⟩ :=kins ey ky hyb hbl;exact⟨List.mem_cons_of_mem _ q1,q2,by omega⟩
   by_cases h1:x=h.nb
   · subst h1;have hy:y≠h.nb:=fun e=>hne e.symm;rw [if_pos rfl]at ex;cases ex;rw [if_neg hy]at ey;rw [Emb.put_same]at kx;cases kx;rw [Emb.put_ne _ _ hy]at ky;obtain⟨i,i1,i2⟩ :=hbl;obtain rfl:L.blk=i:=i1;exact .inl (newOne hy ey ky i2)
   · rw [if_neg h1]at ex;rw [Emb.put_ne _ _ h1]at kx;by_cases h2:y=h.nb
     · subst h2;rw [if_pos rfl]at ey;cases ey;rw [Emb.put_same]at ky;cases ky;obtain⟨i,i1,i2⟩ :=hbl;obtain rfl:L.blk=i:=i2;exact .inr (newOne h1 ex kx i1)
     · rw [if_neg h2]at ey;rw [Emb.put_ne _ _ h2]at ky;rw [aX]at ex ey;by_cases h3:x=b
       · subst h3;have hy:y≠x:=fun e=>hne e.symm;rw [if_pos rfl]at ex;cases ex;rw [if_neg hy]at ey;rw [hE]at kx;cases kx;obtain⟨i,i1,i2⟩ :=hbl;obtain rfl:L.blk=i:=i1;exact .inl (kins ey ky hy i2)
       · rw [if_neg h3]at ex;by_cases h4:y=b
         · subst h4;rw [if_pos rfl]at ey;cases ey;rw [hE]at ky;cases ky;obtain⟨i,i1,i2⟩ :=hbl;obtain rfl:L.blk=i:=i2;exact .inr (kins ex kx h3 i1)
         · rw [if_neg h4]at ey;exact r.kin x y ox oy Lx Ly ex ey kx ky hbl hne
 · intro x hx;rw [nC,hX]at hx;rw [Emb.put_ne _ _ (by omega)];exact r.fresh x (by omega)
 · intro x ox Lx ex kx i hi;show E.imm i=none;rw [cC,hX]at ex;by_cases h1:x=h.nb
   · subst h1;rw [if_pos rfl]at ex;cases ex;rw [Emb.put_same]at kx;cases kx;exact r.apart b _ L hb hE i hi
   · rw [if_neg h1,aX]at ex;rw [Emb.put_ne _ _ h1]at kx;by_cases h2:x=b
     ·subst h2;rw [if_pos rfl]at ex;cases ex;exact r.apart x _ Lx hb kx i hi
     ·rw [if_neg h2]at ex;exact r.apart x ox Lx ex kx i hi
 · intro i hi hno;simp only [bZ];rw [Array.getElem?_setIfInBounds_ne (hno b _ L hb hE)]
 · intro x ox Lx ex kx i hi hlt;rw [cC,hX]at ex;by_cases h1:x=h.nb
   · subst h1;rw [if_pos rfl]at ex;cases ex;rw [Emb.put_same]at kx;cases kx;exact⟨b,_,L,hb,hE,hi⟩
   · rw [if_neg h1,aX]at ex;rw [Emb.put_ne _ _ h1]at kx;by_cases h2:x=b
     ·subst h2;rw [if_pos rfl]at ex;cases ex;rw [hE]at kx;cases kx;exact⟨x,_,L,hb,hE,hi⟩
     ·rw [if_neg h2]at ex;exact⟨x,ox,Lx,ex,kx,hi⟩
theorem Ext.drawn {E':Emb}(x:Ext E h w E' h' w')(d:Nat) :Ext E h w E' h' {w' with drawn:=d}:=
 ⟨x.le,x.size,x.keep,x.own,x.nb,x.os,x.tape,x.output,x.low,x.froz,x.immo,x.keys⟩
theorem aBL {sz len cap:Nat}{a:Addr}{os:List Value}(h:∀w1:World,w1.heap=w.heap→ (loadCells a (len*sz)).run P w1= .ok ⟨os⟩ w1) :
  ∀w1:World,w1.heap=w.heap→ (Builtin.firstCells sz len (.slice (some a) len cap)).run P w1= .ok ⟨os⟩ w1:=fun w1 hw=>by
 simp only [Builtin.firstCells];exact h w1 hw
theorem old_cells (r:Rel E h w.heap){b off m:Nat}{old:List AV}(hl:h.loadN b off m=some old){L:Loc}(hE:E b=some L){off' cap':Nat}(h4:cap'≠0→off'=L.sh+off)(h0:cap'=0→m=0) :
  ∃os,(∀w1:World,w1.heap=w.heap→ (loadCells ⟨L.blk,off',none⟩ m).run P w1= .ok ⟨os⟩ w1) ∧VRs E old os∧os.length=m:=by
 by_cases hc:cap'=0
 · have hm:=h0 hc;subst hm;have:old= [] :=by
    unfold Hp.loadN at hl;split at hl
    ·simp [getCells]at hl;exact hl
    ·cases hl
   subst this;exact⟨[],fun w1 _=>by simp [loadCells,loadCellsFrom],VRs.nil E,rfl⟩
 · have:=h4 hc;subst this;obtain⟨os,k1,k2,k3⟩ :=uT r hl hE;exact⟨os,fun w1 hw=>k1 P w1 hw,k2,k3⟩
theorem aQO {b off m:Nat}{old:List AV}(hl:h.loadN b off m=some old){t:T AV}{n:Nat}{k:List Nat}{s:Bool}(hb:h.look b=some (.cells t n k s)) :old.length=m∧∀j,j<m→t.at (off+j) =old[j]?:=by
 unfold Hp.loadN at hl;rw [hb]at hl;exact mL hl
theorem Rel.supersede (r:Rel E h w.heap){b k:Nat}{t:T AV}{older:List Nat}(hb:h.look b=some (.cells t k older false)) :
  Rel E (h.set b (.cells t k older true)) w.heap∧Ext E h w E (h.set b (.cells t k older true)) w:=by
 have un:∀ {x ox},(h.set b (.cells t k older true)).look x=some ox→∃o0,h.look x=some o0∧ (∀E H L,OR E H L o0→OR E H L ox) ∧bQ ox=bQ o0∧nOf ox=nOf o0∧ (hU o0=true→hU ox=true) ∧jK o0=jK ox∧∀L i,Own ox L i→Own o0 L i:=by
  intro x ox e;rw [aX]at e;split at e
  ·rename_i hx;cases e;subst hx;exact⟨_,hb,fun _ _ _ h=>h,rfl,rfl,fun _=>rfl,rfl,fun _ _ h=>h⟩
  ·exact⟨ox,e,fun _ _ _ h=>h,rfl,rfl,fun h=>h,rfl,fun _ _ h=>h⟩
 refine⟨⟨?_,?_,fun x hx=>r.fresh x hx,r.imm,?_,fun x ox e=>by obtain⟨o0,h0,_⟩ :=un e;exact r.keys x o0 h0⟩,⟨Emb.le.refl E,le_refl _,fun _ _ _=>rfl,?_,le_refl _,rfl,rfl,rfl,fun _ _=>rfl,fun _ _=>rfl,fun _ _ e _=>.inl e,fun x ox e _=>by obtain⟨o0,h0,_⟩ :=un e;exact⟨o0,h0⟩⟩⟩
 · intro x ox e;obtain⟨o0,h0,h1,_,_,_,h5,_⟩ :=un e;rcases r.obj0 x o0 h0 with⟨u1,u2⟩ | ⟨L,k1,k2⟩
   ·exact .inl ⟨by rw [←h5];exact u1,u2⟩
   exact .inr ⟨L,k1,h1 _ _ _ k2⟩
 · intro x y ox oy Lx Ly ex ey kx ky hbl hne;obtain⟨o1,a1,_,a2,a3,a4,_,a5⟩ :=un ex;obtain⟨o2,b1,_,b2,b3,b4,_,b5⟩ :=un ey;obtain⟨i,i1,i2⟩ :=hbl;rcases r.kin x y o1 o2 Lx Ly a1 b1 kx ky ⟨i,a5 _ _ i1,b5 _ _ i2⟩ hne with⟨q1,q2,q3⟩ | ⟨q1,q2,q3⟩
   ·exact .inl ⟨by rw [a2];exact q1,b4 q2,by rw [a3,b3];exact q3⟩
   ·exact .inr ⟨by rw [b2];exact q1,a4 q2,by rw [a3,b3];exact q3⟩
 · intro x ox Lx ex kx i hi;obtain⟨o1,a1,_,_,_,_,_,a5⟩ :=un ex;exact r.apart x o1 Lx a1 kx i (a5 _ _ hi)
 · intro x ox Lx ex kx i hi _;obtain⟨o1,a1,_,_,_,_,_,a5⟩ :=un ex;exact⟨x,o1,Lx,a1,kx,a5 _ _ hi⟩
set_option maxHeartbeats 1000000 in
theorem aappend_sound (r : Rel E h w.heap){argTypes:Array TypeId}{ty:TypeId}{s x v:AV}{cs cx:Value}(ha:aappend P h argTypes s x=some (v,h'))(hs:VR E s cs)(hx:VR E x cx) :
  ∃cv w' E',(Builtin.append_ argTypes ty #[cs,cx]).run P w= .ok cv w'∧VR E' v cv∧Rel E' h' w'.heap∧Ext E h w E' h' w':=by
 unfold aappend at ha;split at ha
 ·cases ha
 · rename_i st hst;split at ha
   · rename_i e hu;split at ha
     · rename_i sz inf z hsz hinf hz;split at ha
       ·cases ha
       · rename_i vs n hadd;cases hc: (beq z.cells.length sz&&ble sz 40&&ble inf.bytes 1000&&ble 1 inf.bytes&&ble 1 sz&&cJ vs&&ble n 1000000)with
         |false=>rw [hc]at ha;cases ha
         | true =>
          rw [hc]at ha;simp only [cond]at ha;simp only [iO,bH,and_eq_true,decide_eq_true_eq]at hc;obtain⟨⟨⟨⟨⟨⟨hzl,hs40⟩,hb2⟩,hb1⟩,hs1⟩,hone⟩,hn6⟩ :=hc;obtain⟨at1,us,hat1,hA,hvs,hul⟩ :=aJU (P:=P) (w:=w) r hadd hx hinf hb2 hs1;split at ha
          · -- the nil slice
            simp only [VR]at hs;subst hs;cases h0:beq n 0 with
            | true=>
             rw [h0]at ha;simp only [cond]at ha;cases ha;have:=Nat.eq_of_beq_eq_true h0;subst this;have hus:us= [] :=List.length_eq_zero_iff.1 (by omega);subst hus;refine⟨.slice none 0 0,w,E,?_,by simp [VR],r,Ext.refl _ _ _⟩;exact run_append_room (base:=none) (len:=0) (cap:=0) (w':=w) hA hst hat1 hu hsz (by omega) rfl
            | false=>
             rw [h0]at ha;simp only [cond]at ha;cases ha;have hn0:n≠0:=fun e=>by subst e;cases h0
             obtain⟨nc,rest,d,k1,k2,k3⟩ :=run_append_grow (ty:=ty) (base:=none) (len:=0) (cap:=0) (os:=[]) hA hz hinf hb1 hb2 hst hat1 hu hsz (by omega) (by omega) (fun w1 _=>by simp [Builtin.firstCells]);simp only [Nat.zero_add,List.nil_append]at k1 k2 k3;obtain⟨q1,q2⟩ :=uW r hvs e rest;refine⟨_,_,_,k3,pR w h _ n n sz nc false (le_refl _) k1 (fun e=>by cases e) ?_,q1,q2.drawn d⟩;rw [length_append,k2,hul,hzl,←add_mul];exact mul_le_mul_right _ (by omega)
          · rename_i b off len cap esz exact;cases hc: (beq esz sz&&ble len 1000000&&ble cap 1000000)with
            |false=>rw [hc]at ha;cases ha
            | true =>
             rw [hc]at ha;simp only [cond]at ha;simp only [iO,bH,and_eq_true,decide_eq_true_eq]at hc;obtain⟨⟨rfl,hlen6⟩,hcap6⟩ :=hc;simp only [VR]at hs;obtain⟨L,off',cap',hE,rfl,g1,g2,g3,g4,g5⟩ :=hs;cases hr:ble (len+n) cap with
             | true =>
              rw [hr]at ha;simp only [cond]at ha;have hroom:=Nat.le_of_ble_eq_true hr;cases h0:beq n 0 with
              | true=>
               rw [h0]at ha;simp only at ha;cases ha;have:=Nat.eq_of_beq_eq_true h0;subst this;have hus:us= [] :=List.length_eq_zero_iff.1 (by omega);subst hus;refine⟨.slice (some ⟨L.blk,off',none⟩) len cap',w,E,?_,?_,r,Ext.refl _ _ _⟩
               ·exact run_append_room (base:=some ⟨L.blk,off',none⟩) (len:=len) (cap:=cap') (w':=w) hA hst hat1 hu hsz (by omega) rfl
               ·simp only [VR];exact⟨L,off',cap',hE,rfl,g1,g2,g3,g4,g5⟩
              | false =>
               rw [h0]at ha;simp only at ha;have hn0:n≠0:=fun e=>by subst e;cases h0
               split at ha
               · rename_i h2 hst2;cases ha;unfold aF8 at hst2;split at hst2
                 · rename_i t k older hb;cases hst2;have hoff:=g4 (by omega);subst hoff;have hvl:=hvs.length;have hm: (len+n) *esz≤cap'*esz:=mul_le_mul_right _ (by omega);rw [add_mul]at hm;obtain⟨w2,q1,q2,q3⟩ :=r.write (off:=off+len*esz) hb hE hvs hone (max k (off+len*esz+vs.length)) (Nat.le_max_left _ _) (fun _=>Nat.le_max_right _ _) (by omega);refine⟨.slice (some ⟨L.blk,L.sh+off,none⟩) (len+n) cap',w2,E,?_,?_,q2,q3⟩
                   · refine run_append_room (base:=some ⟨L.blk,L.sh+off,none⟩) (len:=len) (cap:=cap') (w':=w2) hA hst hat1 hu hsz (by omega) ?_;simp only [eV];rw [add_assoc];exact q1 P
                   ·simp only [VR];exact⟨L,L.sh+off,cap',hE,rfl,by omega,g2,g3,fun _=>rfl,g5⟩
                 ·cases hst2
               ·cases ha
             | false =>
              rw [hr]at ha;simp only [cond]at ha;have hnroom:¬len+n≤cap:=fun e=>by rw [Nat.ble_eq_true_of_le e]at hr;cases hr
              have hn0:n≠0:=fun e=>by subst e;omega
              split at ha
              ·cases ha
              · rename_i old hold;have hc0:cap'=0→len*esz=0:=fun e=>by rw [show len=0 by omega,Nat.zero_mul]
                obtain⟨os,o1,o2,o3⟩ :=old_cells (P:=P) r hold hE g4 hc0
                have grown:∀ (T':T AV) (N:Nat) (kin:List Nat) (h1:Hp),h1.nb=h.nb→Rel E h1 w.heap→Ext E h w E h1 w→¬len+n≤cap' →
                  (∀i a,T'.at i=some a→i<N∧ (old++vs)[i]?=some a) →
                  ∃cv w' E',(Builtin.append_ argTypes ty #[.slice (some ⟨L.blk,off',none⟩) len cap',cx]).run P w= .ok cv w'∧VR E' (.slice h.nb 0 (len+n) (len+n) esz false) cv∧Rel E' (h1.new (.cells T' N kin false)) w'.heap∧Ext E h w E' (h1.new (.cells T' N kin false)) w':=by
                 intro T' N kin h1 hnb r1 x1 hno hT;obtain⟨nc,rest,d,k1,k2,k3⟩ :=run_append_grow (ty:=ty) (base:=some ⟨L.blk,off',none⟩) (len:=len) (cap:=cap') (os:=os) hA hz hinf hb1 hb2 hst hat1 hu hsz hno (by omega) (aBL o1)
                 obtain⟨q1,q2⟩ :=r1.new (.cells T' N kin false) (.cells ⟨os++us++rest⟩ e) (os++us++rest).length (fun E' H' hle _ hH=> ⟨⟨os++us++rest⟩,e,hH,rfl,fun i a hia=>by
                  obtain⟨p1,p2⟩ :=hT i a hia;obtain⟨v,p3,p4⟩ := (o2.append hvs).get i a p2;refine⟨p1,v,?_,p4.mono hle⟩;have hlt:= (List.getElem?_eq_some_iff.1 p3).1;simp only [Nat.zero_add];rw [show(⟨os++us++rest⟩ :Array Value) = (os++us++rest).toArray from rfl,List.getElem?_toArray,getElem?_append_left hlt];exact p3⟩)
                 rw [hnb]at q1 q2;refine⟨_,_,_,k3,?_,q1,x1.trans (q2.drawn d)⟩;refine pR w h _ (len+n) (len+n) esz nc false (le_refl _) k1 (fun e=>by cases e) ?_;rw [length_append,length_append,k2,hul,hzl,o3,←add_mul,←add_mul];exact mul_le_mul_right _ (by omega)
                cases exact with
                | true=>
                 simp only at ha;cases ha;have hce:=g3 rfl
                 exact grown _ _ _ h rfl r (Ext.refl _ _ _) (by omega) (fun i a hia=>by
                  rw [aY]at hia;split at hia
                  ·rename_i hi;exact⟨hi,hia⟩
                  ·cases hia)
                | false =>
                 simp only at ha;split at ha
                 · rename_i t k older hb;cases hk:ble k (off+len*esz)with
                   |false=>rw [hk]at ha;cases ha
                   | true =>
                    rw [hk]at ha;simp only at ha;cases ha;have hk':=Nat.le_of_ble_eq_true hk;obtain⟨ol,og⟩ :=aQO hold hb;have hvl:=hvs.length;obtain⟨Lb,e1,C,ee,e2,e3,e4⟩ :=r.obj _ _ hb;rw [hE]at e1;cases e1;have hT :∀i a,(bif beq off 0 then putCells t (len*esz) vs else putCells .leaf 0 (old++vs)).at i=some a→i<len*esz+vs.length∧ (if i<len*esz then t.at (off+i) =some a else vs[i-len*esz]?=some a) :=by
                     intro i a hia;rw [bH]at hia;by_cases h0:off=0
                     · subst h0;simp only [decide_true,cond]at hia;rw [uR]at hia;split at hia
                       ·rename_i hi;exact⟨hi.2,by rw [if_neg (by omega)];exact hia⟩
                       · rename_i hi;have:= (e4 i a hia).1;exact⟨by omega,by rw [if_pos (by omega)];simpa using hia⟩
                     · simp only [h0,decide_false,cond]at hia;rw [aY]at hia;split at hia
                       · rename_i hi;rw [length_append,ol]at hi;refine⟨hi,?_⟩;split
                         · rename_i hi2;rw [getElem?_append_left (by omega)]at hia;rw [og i hi2];exact hia
                         · rename_i hi2;rw [getElem?_append_right (by omega),ol]at hia;exact hia
                       ·cases hia
                    have hT2:∀i a,(bif beq off 0 then putCells t (len*esz) vs else putCells .leaf 0 (old++vs)).at i=some a→i<old.length+vs.length∧ (old++vs)[i]?=some a:=by
                     intro i a hia;obtain⟨p1,p2⟩ :=hT i a hia;refine⟨by omega,?_⟩;split at p2
                     · rename_i hi2;rw [getElem?_append_left (by omega),←og i hi2];exact p2
                     · rename_i hi2;rw [getElem?_append_right (by omega),ol];exact p2
                    by_cases hroom:len+n≤cap'
                    · have hoff:=g4 (by omega);subst hoff;have hm: (len+n) *esz≤cap'*esz:=mul_le_mul_right _ (by omega);rw [add_mul]at hm;obtain⟨w2,q1,q2,q3⟩ :=r.inplace (off:=off) (m:=len*esz) hb hE hvs hone hk' (by omega) hT (L.sh+off+len*esz) rfl;refine⟨.slice (some ⟨L.blk,L.sh+off,none⟩) (len+n) cap',w2,E.put h.nb ⟨L.blk,L.sh+off,L.sz⟩,?_,?_,?_,?_⟩
                      · refine run_append_room (base:=some ⟨L.blk,L.sh+off,none⟩) (len:=len) (cap:=cap') (w':=w2) hA hst hat1 hu hsz hroom ?_;simp only [eV];exact q1 P
                      · simp only [VR];exact⟨_,L.sh+off,cap',Emb.put_same _ _ _,rfl,le_refl _,hroom,(fun e=>by cases e),fun _=>rfl,g5⟩
                      ·rw [ol];exact q2
                      ·rw [ol];exact q3
                    · obtain⟨r1,x1⟩ :=r.supersede hb;exact grown _ _ _ _ rfl r1 x1 hroom hT2
                 ·cases ha
          ·cases ha
     ·cases ha
   ·cases ha
end
section
variable {P :Program} {E:Emb} {h h':Hp} {w w':World} {tm:T AV} {ρ:Operand→Value}
theorem cH {x:Operand}{k:AV→Option AOut}{o:AOut}(h:uI tm x k=some o) :∃a,bI tm x=some a∧k a=some o:=by
 unfold uI at h;split at h
 ·rename_i v hv;exact⟨v,hv,h⟩
 ·cases h
theorem fL {x y:Operand}{k:AV→AV→Option AOut}{o:AOut}(h:yU tm x y k=some o) :∃a b,bI tm x=some a∧bI tm y=some b∧k a b=some o:=by
 unfold yU at h;split at h
 · rename_i v hv;split at h
   ·rename_i u hu;exact⟨v,u,hv,hu,h⟩
   ·cases h
 ·cases h
theorem dC {v:Option AV}{o:AOut}(h0:val v h=some o) :∃a,v=some a∧o= .val a h:=by
 unfold val at h0;split at h0
 ·cases h0;exact⟨_,rfl,rfl⟩
 ·cases h0
theorem sB {v:Option Hp}{o:AOut}(h0:yT v=some o) :∃h',v=some h'∧o= .val .undef h':=by
 unfold yT at h0;split at h0
 ·cases h0;exact⟨_,rfl,rfl⟩
 ·cases h0
theorem aGg {v:Option (AV×Hp)}{o:AOut}(h0:zO v=some o) :∃a h',v=some (a,h') ∧o= .val a h':=by
 unfold zO at h0;split at h0
 ·cases h0;exact⟨_,_,rfl,rfl⟩
 ·cases h0
theorem nJ {f:Nat}{args:Array Value}(hc:eH P f=true) : (callFunc f args).run P w= .ok (.enter f args) w:=by
 unfold eH at hc;split at hc
 · rename_i fn hf;simp only [and_eq_true,Bool.not_eq_true']at hc;have hn:fn.body.isNone=false:=by cases hb:fn.body<;>simp_all
   simp only [callFunc,Sem.run_bind,run_program,Result.andThen_ok,hf,hc.2,false_eq_true,if_false,hn,Sem.run_pure]
 ·cases hc
theorem aMM {t:TypeId}{name:String}{f:Nat}{v:Value}(hm:oJ P t name=some f)(k:Nat) : (method (k+1) t v name).run P w= .ok (f,v) w:=by
 unfold oJ at hm;split at hm
 ·cases hm
 · rename_i i hi;split at hm
   ·cases hm
   · rename_i m hfind;split at hm
     · rename_i hp hf hu;cases hm;simp [method,cS hi,hfind,hp,follow,hf,receiverAt,aB hu,Place.get]
     ·cases hm
     · rename_i d hno hp hf hu;cases hm;have:∀e,d≠ .pointer e:=fun e h=>by subst h;exact hno e rfl
       simp only [method,Sem.run_bind,cS hi,Result.andThen_ok,hfind,hp,follow,Sem.run_pure,hf,receiverAt,aB hu];cases d<;>first|exact absurd rfl (this _) |simp [Place.get]
     ·cases hm
theorem aAC {t:TypeId}{name:String}{f:Nat}{v:Value}(hm:oJ P t name=some f)(k:Nat) : (nilAhead (k+1) t v name).run P w= .ok (some false) w:=by
 unfold oJ at hm;split at hm
 ·cases hm
 · rename_i i hi;split at hm
   ·cases hm
   · rename_i m hfind;split at hm
     · rename_i hp hf hu;cases hm;simp [nilAhead,cS hi,hfind,hp,followBlind,hf]
     ·cases hm
     · rename_i d hno hp hf hu;cases hm;have:∀e,d≠ .pointer e:=fun e h=>by subst h;exact hno e rfl
       simp only [nilAhead,Sem.run_bind,cS hi,Result.andThen_ok,hfind,hp,followBlind,Sem.run_pure,hf,aB hu];cases d<;>first|exact absurd rfl (this _) |simp
     ·cases hm
theorem aGh (P:Program) :∃k,P.types.size+Made.depth=k+1:=by
 have:0<Made.depth:=by decide
 exact⟨P.types.size+ (Made.depth-1),by omega⟩
theorem aD0 {t:TypeId}{name:String}{f:Nat}{v:Value}{args:Array Value}(hm:oJ P t name=some f)(hc:eH P f=true) :
  (callMethod (.iface t v) name args).run P w= .ok (.enter f (#[v] ++args)) w:=by
 obtain⟨k,hk⟩ :=aGh P;simp only [callMethod,Sem.run_bind,run_program,Result.andThen_ok,hk,aMM hm,nJ hc]
theorem uZ {f:Nat}{args:List AV}{o:AOut}(h:zN P f args=some o) :eH P f=true∧o= .call (.enter f args) :=by
 unfold zN at h;cases hc:eH P f with
 |false=>rw [hc]at h;cases h
 |true=>rw [hc]at h;simp only [cond]at h;cases h;exact⟨rfl,rfl⟩
theorem yW {rv:AV}{crv:Value}{name:String}{args:List AV}{cargs:List Value}{o:AOut}(h0:aDa P rv name args=some o)(hr:VR E rv crv)(ha:VRs E args cargs) :
  ∃f aS cas,o= .call (.enter f aS) ∧VRs E aS cas∧ (callMethod crv name ⟨cargs⟩).run P w= .ok (.enter f ⟨cas⟩) w:=by
 unfold aDa at h0;split at h0
 · rename_i t v;split at h0
   · rename_i f hm;obtain⟨hc,rfl⟩ :=uZ h0;simp only [VR]at hr;obtain⟨u,rfl,hu⟩ :=hr;refine⟨f,_,u::cargs,rfl,VRs.cons hu ha,?_⟩;rw [aD0 hm hc];simp
   ·cases h0
 ·cases h0
theorem aAD (r:Rel E h w.heap){fv:AV}{cfv:Value}{args:List AV}{cargs:List Value}{o:AOut}(h0:uN P fv args=some o)(hf:VR E fv cfv)(ha:VRs E args cargs) :
  ∃d,(Deferred.ofValue cfv ⟨cargs⟩).run P w= .ok d w∧Out P E h w ((invoke d.target d.args).run P w) o:=by
 unfold uN at h0;split at h0
 · rename_i f first cap
   obtain⟨hc,rfl⟩ :=uZ h0;simp only [VR]at hf;obtain⟨a,b,rfl,h1,h2⟩ :=hf;refine⟨{target:=.fn (.func f) ⟨b⟩,args:= ⟨a⟩ ++ ⟨cargs⟩},by simp [Deferred.ofValue],?_⟩;refine⟨a++cargs++b,?_,(h1.append ha).append h2⟩;simp only [invoke,nJ hc];congr 2;apply Array.ext';simp
 · rename_i l;cases h0;simp only [VR]at hf;obtain⟨L,hL,rfl⟩ :=hf;refine⟨{target:=.fn (.yield L.blk) #[],args:= #[] ++ ⟨cargs⟩},by simp [Deferred.ofValue],?_⟩;refine⟨cargs,L,hL,ha,?_⟩;simp only [invoke];congr 2;apply Array.ext';simp
 · rename_i name recv;simp only [VR]at hf;obtain⟨u,rfl,hu⟩ :=hf;obtain⟨f,aS,cas,rfl,k1,k2⟩ :=yW (w:=w) h0 hu ha;refine⟨{target:=.fn (.method name) #[],args:= #[u] ++ ⟨cargs⟩},by simp [Deferred.ofValue],?_⟩;refine⟨cas,?_,k1⟩;have e0: (#[u] ++ ⟨cargs⟩ :Array Value)[0]?=some u:=by simp
   have e1: (#[u] ++ ⟨cargs⟩ :Array Value).extract 1 (#[u] ++ ⟨cargs⟩ :Array Value).size= ⟨cargs⟩ :=by
    apply Array.ext';simp
   simp only [invoke,e0,e1,k2]
 · rename_i t f pr recv
   have key:∀ {o},zN P f (recv::args) =some o→ (∀u:Value,(receiverVia t u #[] pr).run P w= .ok u w) →
     ∃d,(Deferred.ofValue cfv ⟨cargs⟩).run P w= .ok d w∧Out P E h w ((invoke d.target d.args).run P w) o:=by
    intro o h0 hrv;obtain⟨hc,rfl⟩ :=uZ h0;simp only [VR]at hf;obtain⟨u,rfl,hu⟩ :=hf;refine⟨{target:=.fn (.via t #[] f pr) #[],args:= #[u] ++ ⟨cargs⟩},by simp [Deferred.ofValue],?_⟩;refine⟨u::cargs,?_,VRs.cons hu ha⟩;have e0: (#[u] ++ ⟨cargs⟩ :Array Value)[0]?=some u:=by simp
    have e1: (#[u] ++ ⟨cargs⟩ :Array Value).extract 1 (#[u] ++ ⟨cargs⟩ :Array Value).size= ⟨cargs⟩ :=by
     apply Array.ext';simp
    simp only [invoke,e0,e1,Sem.run_bind,hrv u,Result.andThen_ok,nJ hc];refine congrArg (fun z=>Result.ok (Next.enter f z) w) ?_;apply Array.ext';simp
   split at h0
   · rename_i e hu;exact key h0 (fun u=>by simp [receiverVia,follow,receiverAt,aB hu,Place.get])
   ·cases h0
   · rename_i d hno hu
     exact key h0 (fun u=>by
      have:∀e,d≠ .pointer e:=fun e h=>by subst h;exact hno e rfl
      simp only [receiverVia,Array.toList_empty,follow,Sem.run_bind,Sem.run_pure,Result.andThen_ok,receiverAt,aB hu];cases d<;>first|exact absurd rfl (this _) |simp [Place.get])
   ·cases h0
 ·cases h0
theorem sC {s:TypeId}{i o:Nat}(ha:aDR P s i=some o)(b k:Nat) : (Instr.fieldAt s (.pointer (some ⟨b,k,none⟩)) i).run P w= .ok (.pointer (some ⟨b,k+o,none⟩)) w:=by
 unfold aDR at ha;split at ha
 · rename_i fs hu;split at ha
   · rename_i f hf;split at ha
     · rename_i n hn;cases ha;simp [Instr.fieldAt,aB hu,hf,Instr.sureAddr,fieldPlace,bS hn,eV]
     ·cases ha
   ·cases ha
 ·cases ha
theorem kG {i:AV}{ci:Value}{len k:Nat}(hb:gU i len=some k)(hi:VR E i ci) :∃kk,ci= .int kk (k:Int) ∧k<len:=by
 unfold gU at hb;split at hb
 · split at hb
   · rename_i hn;cases hb;simp only [VR]at hi;exact⟨_,by rw [hi];congr 1;omega,by omega⟩
   ·cases hb
 ·cases hb
theorem aD1 {t:TypeId}{d:TypeDesc}{s off:Nat}{aS:List AV}{cs:Array Value}{v:AV}(hu:P.underlying t=some d)(hs:aW P t=some s)(hv:VRs E aS cs.toList)
  (hp: (bif isAggD d then some (AV.agg ((aS.drop off).take s))else aS[off]?) =some v) :∃cv,(part t cs off).run P w= .ok cv w∧VR E v cv:=by
 cases hd:isAggD d with
 | true=>
  rw [hd]at hp;simp only [cond]at hp;cases hp;refine⟨.agg (cs.extract off (off+s)),by simp [part,pQ hu,hd,bS hs],?_⟩;simp only [VR];refine⟨(cs.extract off (off+s)).toList,rfl,?_⟩;have:= (hv.drop off).take s;have e: (cs.extract off (off+s)).toList= (cs.toList.drop off).take s:=by simp
  rw [e];exact this
 | false=>
  rw [hd]at hp;simp only [cond]at hp;obtain⟨cv,h1,h2⟩ :=hv.get _ _ hp;have h1':cs[off]?=some cv:=by simpa using h1
  exact⟨cv,by simp [part,pQ hu,hd,h1'],h2⟩
theorem aAE {xt asserted:TypeId}{ok:Bool}{a v:AV}{ca:Value}(h0:uO P asserted ok a=some v)(ha:VR E a ca) :
  ∃cv,(Instr.typeAssert ca xt asserted ok).run P w= .ok cv w∧VR E v cv:=by
 unfold uO at h0;split at h0
 ·cases h0
 ·cases h0
 · rename_i d hni hu;have hd:∀ms,d≠ .interface ms:=fun ms e=>hni ms (by rw [e]);split at h0
   · cases ok with
     |false=>cases h0
     | true=>
      simp only [cond]at h0;split at h0
      · rename_i z hz;cases h0;obtain⟨cz,z1,z2⟩ :=gI hz;simp only [VR]at ha;subst ha;refine⟨.tuple #[cz,.bool false],?_,by simp only [VR];exact⟨_,rfl,VRs.cons (z2 E) (VRs.cons (by simp [VR]) (VRs.nil E))⟩⟩;cases d<;>first|exact absurd rfl (hd _) |simp [Instr.typeAssert,aB hu,z1]
      ·cases h0
   · rename_i t u;simp only [VR]at ha;obtain⟨cu,rfl,hcu⟩ :=ha;rw [bH]at h0;by_cases ht:t=asserted
     · simp only [ht,decide_true,cond]at h0;cases ok with
       | true=>
        cases h0;refine⟨.tuple #[cu,.bool true],?_,by simp only [VR];exact⟨_,rfl,VRs.cons hcu (VRs.cons (by simp [VR]) (VRs.nil E))⟩⟩;cases d<;>first|exact absurd rfl (hd _) |simp [Instr.typeAssert,aB hu,ht]
       | false=>
        cases h0;refine⟨cu,?_,hcu⟩;cases d<;>first|exact absurd rfl (hd _) |simp [Instr.typeAssert,aB hu,ht]
     · simp only [ht,decide_false,cond]at h0;cases ok with
       |false=>cases h0
       | true=>
        simp only at h0;split at h0
        · rename_i z hz;cases h0;obtain⟨cz,z1,z2⟩ :=gI hz;refine⟨.tuple #[cz,.bool false],?_,by simp only [VR];exact⟨_,rfl,VRs.cons (z2 E) (VRs.cons (by simp [VR]) (VRs.nil E))⟩⟩;cases d<;>first|exact absurd rfl (hd _) |simp [Instr.typeAssert,aB hu,ht,z1]
        ·cases h0
   ·cases h0
theorem aMN (r:Rel E h w.heap){argTypes:Array TypeId}{ty t:TypeId}{x v:AV}{cx:Value}(h0:argTypes[0]?=some t)(hv:aYP P h t x=some v)(hx:VR E x cx) :
  ∃cv,(Builtin.len_ argTypes ty #[cx]).run P w= .ok cv w∧VR E v cv:=by
 unfold aYP at hv;split at hv
 · rename_i hu;cases hv;simp only [VR]at hx;subst hx;exact⟨_,by simp [Builtin.len_,h0,aB hu,lO];rfl,by simp [VR,goInt]⟩
 · rename_i hu;cases hv;exact⟨_,by simp [Builtin.len_,h0,aB hu];rfl,by simp [VR,goInt]⟩
 · rename_i hu;cases hv;simp only [VR]at hx;obtain⟨L,off,cap,_,rfl,_⟩ :=hx;exact⟨_,by simp [Builtin.len_,h0,aB hu];rfl,by simp [VR,goInt]⟩
 · rename_i hu;cases hv;simp only [VR]at hx;subst hx;exact⟨_,by simp [Builtin.len_,h0,aB hu];rfl,by simp [VR,goInt]⟩
 · rename_i hu;cases hv;simp only [VR]at hx;subst hx;exact⟨_,by simp [Builtin.len_,h0,aB hu];rfl,by simp [VR,goInt]⟩
 · rename_i hu;split at hv
   · rename_i m es c hm;cases hv;simp only [VR]at hx;obtain⟨L,hE,rfl⟩ :=hx;obtain⟨L',g1,ES,g2,g3⟩ :=r.obj _ _ hm;rw [hE]at g1;cases g1;have:=g3.length;refine⟨.int .i64 ES.size,by simp [Builtin.len_,h0,aB hu,dV g2,goInt],?_⟩;simp only [VR,Array.length_toList]at this ⊢;rw [this]
   ·cases hv
 ·cases hv
theorem aMO {argTypes:Array TypeId}{ty t:TypeId}{x v:AV}{cx:Value}(h0:argTypes[0]?=some t)(hv:bCZ P t x=some v)(hx:VR E x cx) :
  ∃cv,(Builtin.cap_ argTypes ty #[cx]).run P w= .ok cv w∧VR E v cv:=by
 unfold bCZ at hv;split at hv
 · rename_i hu;cases hv;simp only [VR]at hx;obtain⟨L,off,cap,_,rfl,_,_,h3,_⟩ :=hx;exact⟨_,by simp [Builtin.cap_,h0,aB hu];rfl,by simp [VR,goInt,h3]⟩
 · rename_i hu;cases hv;simp only [VR]at hx;subst hx;exact⟨_,by simp [Builtin.cap_,h0,aB hu];rfl,by simp [VR,goInt]⟩
 ·cases hv
theorem aD2 (r:Rel E h w.heap){b:Builtin}{argTypes:Array TypeId}{ty:TypeId}{consts:Array Bool}{args:List AV}{cargs:List Value}{o:AOut}(h0:eI P h b argTypes args=some o)(ha:VRs E args cargs) :
  Out P E h w ((builtin b argTypes ty consts ⟨cargs⟩).run P w) o∧ ((b= .len∨b= .cap∨b= .max∨b= .min) →aQL P E h w ((builtin b argTypes ty consts ⟨cargs⟩).run P w) o) :=by
 unfold eI at h0;split at h0
 · rename_i x;obtain⟨cx,us,rfl,hx,hn⟩ :=ha.cons_inv;rw [hn.nil_inv];split at h0
   · rename_i t ht;split at h0
     · rename_i v hv;cases h0;obtain⟨cv,k1,k2⟩ :=aMN (ty:=ty) r ht hv hx;exact aU r k1 k2
     ·cases h0
   ·cases h0
 · rename_i x;obtain⟨cx,us,rfl,hx,hn⟩ :=ha.cons_inv;rw [hn.nil_inv];split at h0
   · rename_i t ht;split at h0
     · rename_i v hv;cases h0;obtain⟨cv,k1,k2⟩ :=aMO (ty:=ty) (w:=w) ht hv hx;exact aU r k1 k2
     ·cases h0
   ·cases h0
 · rename_i s x;obtain⟨cs,us,rfl,hs,hn⟩ :=ha.cons_inv;obtain⟨cx,us',rfl,hx,hn'⟩ :=hn.cons_inv;rw [hn'.nil_inv];split at h0
   · rename_i v h' hv;cases h0;obtain⟨cv,w',E',k1,k2,k3,k4⟩ :=aappend_sound (ty:=ty) r hv hs hx;exact nq (by simp) (jP k1 k2 k3 k4)
   ·cases h0
 · rename_i k a k' b;cases h0;obtain⟨cs,us,rfl,hs,hn⟩ :=ha.cons_inv;obtain⟨cx,us',rfl,hx,hn'⟩ :=hn.cons_inv;rw [hn'.nil_inv];simp only [VR]at hs hx;subst hs hx;exact aU r (cv:=.int k (if b>a then b else a)) (by simp [Builtin.max_,Builtin.max2]) (by simp [VR])
 · rename_i k a k' b;cases h0;obtain⟨cs,us,rfl,hs,hn⟩ :=ha.cons_inv;obtain⟨cx,us',rfl,hx,hn'⟩ :=hn.cons_inv;rw [hn'.nil_inv];simp only [VR]at hs hx;subst hs hx;exact aU r (cv:=.int k (if b<a then b else a)) (by simp [Builtin.min_,Builtin.min2]) (by simp [VR])
 · rename_i t v;cases h0;obtain⟨cs,us,rfl,hs,hn⟩ :=ha.cons_inv;rw [hn.nil_inv];simp only [VR]at hs;obtain⟨u,rfl,hu⟩ :=hs;exact nq (by simp) ⟨.iface t u,by simp [builtin,Instr.panic],by simp only [VR];exact⟨u,rfl,hu⟩⟩
 · cases h0;rw [ha.nil_inv];exact nq (by simp) (by simp [Out,builtin])
 ·cases h0
theorem kH {S:Operand→Prop}(hρ:Reads E tm ρ S){x:Option Operand}{a:Option AV}(hx:∀y,x=some y→S y)(h0:oI tm x=some a) :OVR E a (x.map ρ) :=by
 unfold oI at h0;split at h0
 ·cases h0;trivial
 · split at h0
   ·rename_i v hv;cases h0;exact hρ _ (hx _ rfl) _ hv
   ·cases h0
theorem aJV (r:Rel E h w.heap){c:Call}(hρ:Reads E tm ρ (· ∈c.operands)){ty:TypeId}{o:AOut}(h0:oK P h tm c=some o) :
  Out P E h w ((do let d ←resolve ρ c ty;invoke d.target d.args:Sem Next).run P w) o∧ ((∃b,c.callee= .builtin b∧ (b= .len∨b= .cap∨b= .max∨b= .min)) →aQL P E h w ((do let d ←resolve ρ c ty;invoke d.target d.args:Sem Next).run P w) o) :=by
 unfold oK at h0;split at h0
 ·cases h0
 · rename_i args hargs;have ha:=hρ.list (fun x hx=>by simp only [Call.operands,Array.mem_append];exact .inr (by simpa using hx)) hargs;have hm:c.args.map ρ= ⟨c.args.toList.map ρ⟩ :=by apply Array.ext';simp
   split at h0
   · rename_i f hf;split at h0
     · rename_i fv hfv;refine nq (fun⟨b,hb,_⟩ =>by rw [hf]at hb;cases hb) ?_;obtain⟨d,k1,k2⟩ :=aAD r h0 (hρ _ (by simp [Call.operands,hf]) _ hfv) ha;simp only [resolve,hf,hm,Sem.run_bind,k1,Result.andThen_ok];exact k2
     ·cases h0
   · rename_i rc name hf;split at h0
     · rename_i rv hrv;refine nq (fun⟨b,hb,_⟩ =>by rw [hf]at hb;cases hb) ?_;obtain⟨f,aS,cas,rfl,k1,k2⟩ :=yW (w:=w) h0 (hρ _ (by simp [Call.operands,hf]) _ hrv) ha;refine⟨cas,?_,k1⟩;have e0: (#[ρ rc] ++ ⟨c.args.toList.map ρ⟩ :Array Value)[0]?=some (ρ rc) :=by simp
       have e1: (#[ρ rc] ++ ⟨c.args.toList.map ρ⟩ :Array Value).extract 1 (#[ρ rc] ++ ⟨c.args.toList.map ρ⟩ :Array Value).size= ⟨c.args.toList.map ρ⟩ :=by
        apply Array.ext';simp [List.take_of_length_le]
       simp only [resolve,hf,hm,Sem.run_bind,Sem.run_pure,Result.andThen_ok,invoke,e0,e1,k2]
     ·cases h0
   · rename_i b hf;simp only [resolve,hf,hm,Sem.run_bind,Sem.run_pure,Result.andThen_ok,invoke];have:=aD2 (ty:=ty) (consts:=c.args.map fun| .const _=>true|_=>false) r h0 ha;exact⟨this.1,fun⟨b',hb,hq⟩ =>this.2 (by cases hb;exact hq)⟩
theorem qL (x:Nat) :∀ (l:List Nat),zP x l=l.contains x
 | [] =>rfl
 | y::l=>by
  rw [zP,List.contains_cons,qL x l];congr 1;rw [Bool.eq_iff_iff,beq_eq,beq_iff_eq];exact eq_comm
theorem ERs.filter {E:Emb}(p:Nat→Bool) :∀ {aS:List (AV×AV×Nat)} {us:List MapEntry},ERs E aS us→ERs E (aS.filter fun e=>p e.2.2) (us.filter fun u=>p u.born)
 | [],_,r=>by simp only [ERs]at r;subst r;simp [ERs]
 | a::aS,_,r=>by
  simp only [ERs]at r;obtain⟨u,us',rfl,h2,h3,h4,h5⟩ :=r;have ih:=ERs.filter p h5;simp only [List.filter_cons,h4];split
  ·simp only [ERs];exact⟨u,_,rfl,h2,h3,h4,ih⟩
  ·exact ih
theorem ERs.append {E:Emb}:∀ {aS bs:List (AV×AV×Nat)} {us vs:List MapEntry},ERs E aS us→ERs E bs vs→ERs E (aS++bs) (us++vs)
 | [],_,_,_,r,k=>by simp only [ERs]at r;subst r;exact k
 | a::aS,_,_,_,r,k=>by
  simp only [ERs]at r;obtain⟨u,us',rfl,h2,h3,h4,h5⟩ :=r;simp only [List.cons_append,ERs];exact⟨u,_,rfl,h2,h3,h4,h5.append k⟩
theorem ERs.len {E:Emb}:∀ {aS:List (AV×AV×Nat)} {us:List MapEntry},ERs E aS us→aS.length=us.length
 | [],_,r=>by simp only [ERs]at r;subst r;rfl
 | a::aS,_,r=>by
  simp only [ERs]at r;obtain⟨u,us',rfl,h2,h3,h4,h5⟩ :=r;simp [h5.len]
theorem ERs.get {E:Emb}:∀ {aS:List (AV×AV×Nat)} {us:List MapEntry},ERs E aS us→∀ (i:Nat) (u:MapEntry),us[i]?=some u→∃a,aS[i]?=some a∧VR E a.1 u.key∧VR E a.2.1 u.val∧u.born=a.2.2
 | [],_,r,i,u,e=>by simp only [ERs]at r;subst r;simp at e
 | a::aS,_,r,i,u,e=>by
  simp only [ERs]at r;obtain⟨u',us',rfl,h2,h3,h4,h5⟩ :=r;cases i with
  |zero=>simp at e;subst e;exact⟨a,rfl,h2,h3,h4⟩
  |succ i=>simp at e;obtain⟨b,g1,g2⟩ :=h5.get i u e;exact⟨b,by simpa using g1,g2⟩
theorem ERs.all {E:Emb}(p:Nat→Bool) :∀ {aS:List (AV×AV×Nat)} {us:List MapEntry},ERs E aS us→ (aS.all fun e=>p e.2.2) =us.all fun u=>p u.born
 | [],_,r=>by simp only [ERs]at r;subst r;rfl
 | a::aS,_,r=>by
  simp only [ERs]at r;obtain⟨u,us',rfl,h2,h3,h4,h5⟩ :=r;simp only [List.all_cons,h4,ERs.all p h5]
theorem sD {r:Nat}{m:Option Nat}{s:Nat}{l:Array Nat}{n:Nat}(hr:w.heap[r]?=some (.mapIter m s l n)) : (getObj r).run P w= .ok (.mapIter m s l n) w:=by
 simp [getObj,Sem.run,hr]
theorem aHr (n:Nat)(hn:0<n) :∃c d,c<n∧ (choose (.mapNext n)).run P w= .ok c {w with drawn:=d}:=by
 by_cases h1:n≤1
 · refine⟨0,w.drawn,hn,?_⟩;have hq: (Question.mapNext n).forced=true:=by simp [Question.forced,h1]
   simp only [run_choose,hq,if_true]
 · refine⟨(Question.mapNext n).cut (w.tape w.drawn (.mapNext n)),w.drawn+1,?_,?_⟩
   · simp only [Question.cut];exact Nat.mod_lt _ hn
   · have hq: (Question.mapNext n).forced=false:=by simp [Question.forced];omega
     simp only [run_choose,hq];rfl
theorem Ext.drew {E:Emb}{h:Hp}{w:World}(d:Nat) :Ext E h w E h {w with drawn:=d}:=
 ⟨Emb.le.refl E,le_refl _,fun _ _ _=>rfl,fun b o L h1 h2 i hi _=> ⟨b,o,L,h1,h2,hi⟩,le_refl _,rfl,rfl,rfl,fun _ _=>rfl,fun _ _=>rfl,fun _ _ e _=>.inl e,fun _ o e _=> ⟨o,e⟩⟩
theorem aHs {es:List (AV×AV×Nat)}{ES:Array MapEntry}(r:ERs E es ES.toList)(since:Nat)(seen:List Nat) :
  let left:=ES.filter fun e=> !(⟨seen⟩ :Array Nat).contains e.born
  let cs:= (if(left.filter (·.born<since)).isEmpty then #[none]else #[]) ++ ((left.filter (·.born<since)) ++ (left.filter (·.born≥since))).map some
  0<cs.size∧∀c,c<cs.size→∃x,x∈aHd es since seen∧ ((x=none∧cs[c]?=some none) ∨∃a u,x=some a∧cs[c]?=some (some u) ∧VR E a.1 u.key∧VR E a.2.1 u.val∧u.born=a.2.2) :=by
 intro left cs;have hl:ERs E (es.filter fun e=> !(zP e.2.2 seen)) left.toList:=by
  have:=r.filter (fun n=> !(zP n seen));simpa [left,qL]using this
 have ho:ERs E ((es.filter fun e=> !(zP e.2.2 seen)).filter fun e=>blt e.2.2 since) (left.filter (·.born<since)).toList:=by
  have:=hl.filter (fun n=>blt n since);simpa [cO]using this
 have hn:ERs E ((es.filter fun e=> !(zP e.2.2 seen)).filter fun e=> !(blt e.2.2 since)) (left.filter (·.born≥since)).toList:=by
  have:=hl.filter (fun n=> !(blt n since));have e1: (left.filter (·.born≥since)).toList=left.toList.filter (fun u=> !(blt u.born since)) :=by
   simp only [Array.toList_filter];congr 1
   funext u
   simp only [cO,ge_iff_le];by_cases g:since≤u.born
   · have:¬u.born<since:=by omega
     simp [g,this]
   · have:u.born<since:=by omega
     simp [g,this]
  rw [e1];exact this
 have hb:=ho.append hn;have hio: (left.filter (·.born<since)).isEmpty= ((es.filter fun e=> !(zP e.2.2 seen)).filter fun e=>blt e.2.2 since).isEmpty:=by
  have:=ho.len;rw [Bool.eq_iff_iff];simp only [Array.isEmpty_iff_size_eq_zero,List.isEmpty_iff_length_eq_zero,this,Array.length_toList]
 have got:∀ (i:Nat) (u:MapEntry),((left.filter (·.born<since)).toList++ (left.filter (·.born≥since)).toList)[i]?=some u→∃a,a∈ ((es.filter fun e=> !(zP e.2.2 seen)).filter fun e=>blt e.2.2 since) ++ ((es.filter fun e=> !(zP e.2.2 seen)).filter fun e=> !(blt e.2.2 since)) ∧VR E a.1 u.key∧VR E a.2.1 u.val∧u.born=a.2.2:=fun i u e=>by
  obtain⟨a,g1,g2⟩ :=hb.get i u e;exact⟨a,List.mem_of_getElem? g1,g2⟩
 have ecs:cs.toList= (if((es.filter fun e=> !(zP e.2.2 seen)).filter fun e=>blt e.2.2 since).isEmpty then [none]else []) ++ ((left.filter (·.born<since)).toList++ (left.filter (·.born≥since)).toList).map some:=by
  simp only [cs,hio];split<;>simp
 have esz:cs.size=cs.toList.length:=by simp
 refine⟨?_,fun c hc=>?_⟩
 · rw [esz,ecs];by_cases g: ((es.filter fun e=> !(zP e.2.2 seen)).filter fun e=>blt e.2.2 since).isEmpty=true
   ·rw [if_pos g];simp
   · rw [←hio,Array.isEmpty_iff_size_eq_zero]at g;have:0< (left.filter (·.born<since)).toList.length:=by simp only [Array.length_toList];omega
     simp only [length_append,List.length_map];omega
 · have hc2:c<cs.toList.length:=by omega
   have hx:cs[c]?=some cs.toList[c] :=by rw [←Array.getElem?_toList];exact List.getElem?_eq_getElem hc2
   have hmem:=List.getElem_mem hc2;rw [hx];generalize cs.toList[c] =y at hmem;rw [ecs]at hmem;rcases List.mem_append.1 hmem with g|g
   · split at g
     · rename_i hi;simp only [List.mem_singleton]at g;subst g;exact⟨none,by simp only [aHd,hi,if_true];simp,.inl ⟨rfl,rfl⟩⟩
     ·cases g
   · obtain⟨u,hu,rfl⟩ :=List.mem_map.1 g;obtain⟨i,hi,rfl⟩ :=List.mem_iff_getElem.1 hu;obtain⟨a,ha,g2⟩ :=got i _ (List.getElem?_eq_getElem hi);exact⟨some a,by simp only [aHd];exact List.mem_append.2 (.inr (List.mem_map.2 ⟨a,ha,rfl⟩)),.inr ⟨a,_,rfl,rfl,g2⟩⟩
theorem aCw (r:Rel E h w.heap){b:Nat}{l:List (AV×Hp)}{L:Loc}(h0:aF9 h b=some l)(hE:E b=some L)(hL:L.sh=0) :
  ∃v h',(v,h') ∈l∧∃cv w',(∀ty,(Instr.next (.pointer (some ⟨L.blk,0,none⟩)) false ty).run P w= .ok cv w') ∧VR E v cv∧Rel E h' w'.heap∧Ext E h w E h' w':=by
 unfold aF9 at h0;split at h0
 · rename_i m since seen last hm;obtain⟨L',g1,Lm,g2,g3,g4⟩ :=r.obj _ _ hm;rw [hE]at g1;cases g1;split at h0
   · rename_i es clock hmm;obtain⟨L',k1,ES,k2,k3⟩ :=r.obj _ _ hmm;rw [g3]at k1;cases k1;cases hc: (!seen.isEmpty&& !es.isEmpty&&es.all (fun e=>ble last e.2.2))with
     |true=>rw [hc]at h0;cases h0
     | false=>
      rw [hc]at h0;simp only [cond]at h0;cases h0;have e1: (!(⟨seen⟩ :Array Nat).isEmpty&& !ES.isEmpty&&ES.all (·.born≥last)) =false:=by
       rw [←hc];have a1: (⟨seen⟩ :Array Nat).isEmpty=seen.isEmpty:=by rw [←Array.isEmpty_toList]
       have a2:ES.isEmpty=es.isEmpty:=by
        have:=k3.len;rw [Bool.eq_iff_iff];simp only [Array.isEmpty_iff_size_eq_zero,List.isEmpty_iff_length_eq_zero,this,Array.length_toList]
       have a3:ES.all (·.born≥last) =es.all (fun e=>ble last e.2.2) :=by
        rw [k3.all (fun n=>ble last n),←Array.all_toList];congr 1
        funext u
        rw [Bool.eq_iff_iff];simp
       rw [a1,a2,a3]
      obtain⟨c1,c2⟩ :=aHs k3 since seen;obtain⟨c,d,c3,c4⟩ :=aHr (P:=P) (w:=w) _ c1;obtain⟨x,c5,c6⟩ :=c2 c c3;refine⟨_,_,List.mem_map.2 ⟨x,c5,rfl⟩,?_⟩;rcases c6 with⟨rfl,c7⟩ | ⟨a,u,rfl,c7,c8,c9,c10⟩
      · refine⟨.tuple #[.bool false],{w with drawn:=d},fun ty=>?_,?_,r,Ext.drew d⟩
        ·simp only [Instr.next,Sem.run_bind,sD g2,Result.andThen_ok,dV k2,e1,false_eq_true,if_false,c4,c7,Sem.run_pure]
        ·simp only [VR];exact⟨_,rfl,VRs.cons (by simp [VR]) (VRs.nil E)⟩
      · have r1:Rel E h ({w with drawn:=d}:World).heap:=r;have q:=r1.setObj (o':=.miter m since (seen++ [a.2.2]) clock) (.mapIter (some Lm.blk) since (#[u.born].foldl (·.push ·) ⟨seen⟩) clock) hm hE rfl rfl (fun H' hH=> ⟨Lm,by rw [hH,←c10];simp,g3,g4⟩);refine⟨.tuple #[.bool true,u.key,u.val],bZ {w with drawn:=d} L.blk (.mapIter (some Lm.blk) since ((⟨seen⟩ :Array Nat).push u.born) clock),fun ty=>?_,?_,q.1,(Ext.drew d).trans q.2⟩
        · have:=oO (P:=P) (w:={w with drawn:=d}) (ob':=.mapIter (some Lm.blk) since ((⟨seen⟩ :Array Nat).push u.born) clock) g2 (fun _ _ _ e=>by cases e);simp only [Instr.next,Sem.run_bind,sD g2,Result.andThen_ok,dV k2,e1,false_eq_true,if_false,c4,c7,this,Sem.run_pure]
        · simp only [VR];exact⟨_,rfl,VRs.cons (by simp [VR]) (VRs.cons c8 (VRs.cons c9 (VRs.nil E)))⟩
   ·cases h0
 ·cases h0
theorem ERs.find {E:Emb}(p:Nat→Bool) :∀ {aS:List (AV×AV×Nat)} {us:List MapEntry},ERs E aS us→∀ {a},aS.find? (fun e=>p e.2.2) =some a→∃u,us.find? (fun u=>p u.born) =some u∧VR E a.1 u.key∧VR E a.2.1 u.val
 | [],_,_,a,e=>by simp at e
 | b::aS,_,r,a,e=>by
  simp only [ERs]at r;obtain⟨u,us',rfl,h2,h3,h4,h5⟩ :=r;rw [List.find?_cons]at e ⊢;rw [h4];split at e
  ·cases e;exact⟨u,rfl,h2,h3⟩
  ·exact ERs.find p h5 e
theorem aHt (r:Rel E h w.heap){b:Nat}{v:AV}{L:Loc}(h0:aMG h b=some v)(hE:E b=some L) :
  L.sh=0∧∃cv,(Instr.entry (.pointer (some ⟨L.blk,0,none⟩))).run P w= .ok cv w∧VR E v cv:=by
 unfold aMG at h0;split at h0
 · rename_i m since seen last hm;obtain⟨L',g1,Lm,g2,g3,g4⟩ :=r.obj _ _ hm;rw [hE]at g1;cases g1;split at h0
   · rename_i stamp es clock hs hmm;obtain⟨L',k1,ES,k2,k3⟩ :=r.obj _ _ hmm;rw [g3]at k1;cases k1;cases hc:beq clock last with
     |false=>rw [hc]at h0;cases h0
     | true=>
      rw [hc]at h0;simp only [cond]at h0;split at h0
      · rename_i e he;cases h0;obtain⟨u,q1,q2,q3⟩ :=k3.find (fun n=>beq n stamp) he;have q1':ES.find? (·.born==stamp) =some u:=by
         rw [←Array.find?_toList];have e3: (fun u:MapEntry=> (u.born==stamp)) =fun u=>beq u.born stamp:=by funext u;rw [Bool.eq_iff_iff,beq_iff_eq,beq_eq]
         rw [e3];exact q1
        have hb: (⟨seen⟩ :Array Nat).back?=some stamp:=by simpa [←Array.getLast?_toList]using hs
        have hcl: (clock != last) =false:=by rw [beq_eq]at hc;simp [hc]
        refine⟨g4,.tuple #[u.key,u.val],?_,?_⟩
        ·simp only [Instr.entry,Sem.run_bind,sD g2,Result.andThen_ok,hb,dV k2,hcl,false_eq_true,if_false,q1',Sem.run_pure]
        · simp only [VR];exact⟨_,rfl,VRs.cons q2 (VRs.cons q3 (VRs.nil E))⟩
      ·cases h0
   ·cases h0
 ·cases h0
theorem aAF {r:Nat}{s:ByteArray}{p:Nat}(hr:w.heap[r]?=some (.stringIter s p)) : (getObj r).run P w= .ok (.stringIter s p) w:=by
 simp [getObj,Sem.run,hr]
theorem aHu {l n pos c d:Nat}(h0:aMF l n pos=some (c,d)) :Utf8.decode (fU l n) pos= (c,d) ∧pos<l:=by
 unfold aMF at h0;rw [cO]at h0;by_cases hp:pos<l
 · simp only [hp,decide_true,cond]at h0;rw [cO]at h0;by_cases hc:Nat.mod (Nat.div n (Nat.pow 256 pos)) 256<128
   · simp only [hc,decide_true]at h0;cases h0;refine⟨?_,hp⟩;have hc':n / 256 ^ pos % 256<128:=hc;have hg: ((fU l n).get! pos).toNat=n / 256 ^ pos % 256:=by
      have:=iQ l n pos hp;simp only [fU,ByteArray.get!];have h2: (⟨aN l n⟩ :Array UInt8)[pos]! =UInt8.ofNat (n / 256 ^ pos % 256) :=by
       rw [Array.getElem!_eq_getD,Array.getD_eq_getD_getElem?,show(⟨aN l n⟩ :Array UInt8) = (aN l n).toArray from rfl,List.getElem?_toArray,this];rfl
      rw [h2];simp
     show Utf8.decode (fU l n) pos= (n / 256 ^ pos % 256,1);have hlt:n / 256 ^ pos % 256<0x80:=hc';simp only [Utf8.decode,Nat.add_zero,hg,hlt,if_true]
   ·simp only [hc,decide_false,Option.some.injEq]at h0;exact⟨h0,hp⟩
 ·simp only [hp,decide_false,cond]at h0;cases h0
set_option maxHeartbeats 4000000 in
theorem aJW (r:Rel E h w.heap){o:Oper}(hρ:Reads E tm ρ (· ∈o.op.operands)){out:AOut}(h0:fK P h tm o=some out) :
  Out P E h w ((execOp ρ o).run P w) out∧ (cK o.op= .pure∨cK o.op= .read→aQL P E h w ((execOp ρ o).run P w) out) :=by
 unfold fK at h0;unfold execOp;split at h0
 all_goals (rename_i hop;try (simp only [hop];rw [hop]at hρ))
 · -- move
   obtain⟨a,ha,rfl⟩ :=dC h0;have hh:=hρ _ (by simp [Op.operands]) _ ha;exact⟨⟨E,w,_,.inl rfl,hh,r,Ext.refl _ _ _⟩,fun _=> ⟨rfl,_,rfl,hh⟩⟩
 · obtain⟨a,ha,rfl⟩ :=dC h0;have hh:=hρ _ (by simp [Op.operands]) _ ha;exact⟨⟨E,w,_,.inl rfl,hh,r,Ext.refl _ _ _⟩,fun _=> ⟨rfl,_,rfl,hh⟩⟩
 · -- pick
   split at h0
   · rename_i hc;obtain⟨a,ha,rfl⟩ :=dC h0;have:=hρ _ (by simp [Op.operands]) _ hc;simp only [VR]at this;have hh:=hρ _ (by simp [Op.operands]) _ ha;exact⟨⟨E,w,_,.inl (by simp [this,asBool]),hh,r,Ext.refl _ _ _⟩,fun _=> ⟨rfl,_,by simp [this,asBool],hh⟩⟩
   · rename_i hc;obtain⟨a,ha,rfl⟩ :=dC h0;have:=hρ _ (by simp [Op.operands]) _ hc;simp only [VR]at this;have hh:=hρ _ (by simp [Op.operands]) _ ha;exact⟨⟨E,w,_,.inl (by simp [this,asBool]),hh,r,Ext.refl _ _ _⟩,fun _=> ⟨rfl,_,by simp [this,asBool],hh⟩⟩
   ·cases h0
 · -- alloc
   rename_i e;split at h0
   · rename_i z hz;cases h0;obtain⟨cz,z1,z2⟩ :=gI hz;obtain⟨q1,q2⟩ :=jQ r (z2 E).cells e;refine nq (by simp [cK]) ?_;exact jP (s:=Instr.alloc e true (.tuple #[])) (cv:=.pointer (some ⟨w.heap.size,0,none⟩)) (by simp [Instr.alloc,z1,newVar,newRow]) (wT w h _) q1 q2
   ·cases h0
 · -- box
   rename_i e x;obtain⟨a,ha,h0⟩ :=cH h0;cases h0;obtain⟨q1,q2⟩ :=jQ r (hρ _ (by simp [Op.operands]) _ ha).cells e;refine nq (by simp [cK]) ?_;exact jP (s:=Instr.box e (ρ x)) (cv:=.pointer (some ⟨w.heap.size,0,none⟩)) (by simp [Instr.box,newVar,newRow]) (wT w h _) q1 q2
 · -- build
   rename_i t ps;split at h0
   · rename_i l hl;obtain⟨a,ha,rfl⟩ :=dC h0;obtain⟨g1,g2⟩ :=hρ.parts (fun p hp=>by simp only [Op.operands,List.mem_toArray,mem_map];exact⟨p,hp,rfl⟩) hl;obtain⟨cv,k1,k2⟩ :=aHq (w:=w) (qs:=ps.map fun(i,x) => (i,ρ x)) ha (by rw [g1];simp) (by simpa [Function.comp_def]using g2);exact aU r k1 k2
   ·cases h0
 · -- buildSlice
   rename_i t n ps;split at h0
   · rename_i l hl;split at h0
     · rename_i cs s hcs;cases h0;obtain⟨g1,g2⟩ :=hρ.parts (fun p hp=>by simp only [Op.operands,List.mem_toArray,mem_map];exact⟨p,hp,rfl⟩) hl;obtain⟨out,e,k1,k2,k3⟩ :=pT r (qs:=ps.map fun(i,x) => (i,ρ x)) hcs (by rw [g1];simp) (by simpa [Function.comp_def]using g2);obtain⟨q1,q2⟩ :=jQ r k1 e;refine nq (by simp [cK]) ?_;exact jP (k3 w) (pR w h _ n n s n true (le_refl _) (le_refl _) (fun _=>rfl) k2) q1 q2
     ·cases h0
   ·cases h0
 · -- load
   rename_i t a;obtain⟨p,hp,h0⟩ :=cH h0;split at h0
   · rename_i b off;obtain⟨v,hv,rfl⟩ :=dC h0;have:=hρ _ (by simp [Op.operands]) _ hp;simp only [VR]at this;obtain⟨L,hE,hL⟩ :=this;obtain⟨cv,k1,k2⟩ :=aCv r hv hE;exact aU r (by simp [Instr.loadAt,hL,Instr.sureAddr,k1]) k2
   ·cases h0
 · -- store
   rename_i t a x;obtain⟨p,v,hp,hx,h0⟩ :=fL h0;split at h0
   · rename_i b off;obtain⟨h',hv,rfl⟩ :=sB h0;have:=hρ _ (by simp [Op.operands]) _ hp;simp only [VR]at this;obtain⟨L,hE,hL⟩ :=this;obtain⟨w',k1,k2,k3⟩ :=aHk r hv hE (hρ _ (by simp [Op.operands]) _ hx);refine nq (by simp [cK]) ?_;exact uU (by simp [Instr.storeAt,hL,Instr.sureAddr,k1]) k2 k3
   ·cases h0
 · -- nilCheck
   rename_i x;obtain⟨a,ha,h0⟩ :=cH h0;have hv:=hρ _ (by simp [Op.operands]) _ ha;split at h0
   ·cases h0
   ·cases h0
   ·cases h0
   ·cases h0
   · rename_i name t v;split at h0
     · rename_i f hm;cases h0;simp only [VR]at hv;obtain⟨u,hu,c,rfl,hc⟩ :=hv;obtain⟨k,hk⟩ :=aGh P;have hh:VR E (.meth name (.iface t v)) (.func (.method name) #[.iface t c] #[]) :=by simp only [VR];exact⟨_,rfl,c,rfl,hc⟩
       exact⟨⟨E,w,.func (.method name) #[.iface t c] #[],.inl (by simp [hu,hk,aAC hm]),hh,r,Ext.refl _ _ _⟩,fun _=> ⟨rfl,_,by simp [hu,hk,aAC hm],hh⟩⟩
     ·cases h0
   ·cases h0
   · rename_i v h1 h2 h3 h6 h4 h5;cases h0;have hr:∀A B,(A=Result.ok (Next.value (ρ x)) w→B) →A=Result.ok (Next.value (ρ x)) w→B:=fun _ _ f h=>f h;refine hr _ _ (fun e=> ⟨⟨E,w,ρ x,.inl e,hv,r,Ext.refl _ _ _⟩,fun _=> ⟨rfl,_,e,hv⟩⟩) ?_;cases a<;>simp only [VR]at hv
     case nilp=>exact absurd rfl h1
     case nili=>exact absurd rfl h2
     case nilf=>exact absurd rfl h3
     case meth n rc=>exact absurd rfl (h5 n rc)
     case val u=>exact absurd rfl (h6 u)
     case ilst=>obtain⟨vs,_,hv⟩ :=hv;rcases hv.2 with⟨_,_,_,hL,_⟩ | ⟨_,_,_,_,hL,_⟩ <;> (rw [hL];rfl)
     case iptr=>obtain⟨us,_,_,_,_,hL,_⟩ :=hv;rw [hL];rfl
     case gl=>rcases hv with⟨_,_,hL⟩ | ⟨_,_,_,_,hL,_⟩ <;> (rw [hL];rfl)
     all_goals (first
      | (rw [hv];rfl)
      | (obtain⟨L,_,hL⟩ :=hv;rw [hL];rfl)
      | (obtain⟨L,off,cap,_,hL,_⟩ :=hv;rw [hL];rfl)
      | (obtain⟨a,b,hL,_⟩ :=hv;rw [hL];rfl)
      | (obtain⟨u,hL,_⟩ :=hv;rw [hL];rfl))
 · -- binOp
   rename_i op t x y yt;obtain⟨a,b,ha,hb,h0⟩ :=fL h0;obtain⟨v,hv,rfl⟩ :=dC h0;obtain⟨cv,k1,k2⟩ :=aMK (w:=w) x y hv (hρ _ (by simp [Op.operands]) _ ha) (hρ _ (by simp [Op.operands]) _ hb);exact aU r k1 k2
 · -- unOp
   obtain⟨a,ha,h0⟩ :=cH h0;obtain⟨v,hv,rfl⟩ :=dC h0;obtain⟨cv,k1,k2⟩ :=aQM (P:=P) (w:=w) hv (hρ _ (by simp [Op.operands]) _ ha);exact aU r k1 k2
 · -- convert
   obtain⟨a,ha,h0⟩ :=cH h0;obtain⟨v,hv,rfl⟩ :=dC h0;obtain⟨cv,k1,k2⟩ :=aDV r hv (hρ _ (by simp [Op.operands]) _ ha);exact aU r k1 k2
 · -- makeInterface
   rename_i t x;obtain⟨a,ha,h0⟩ :=cH h0;split at h0
   ·cases h0
   · rename_i d hni hu;cases h0;have hd:∀ms,d≠ .interface ms:=fun ms e=>hni ms (by rw [e]);refine aU r (cv:=.iface t (ρ x)) ?_ (by simp only [VR];exact⟨_,rfl,hρ _ (by simp [Op.operands]) _ ha⟩);cases d<;>first|exact absurd rfl (hd _) |simp [Instr.makeInterface,aB hu]
   ·cases h0
 · -- makeFunc
   rename_i f first cap
   split at h0
   · rename_i fs cs hf hc;cases h0;refine aU r (cv:=.func (.func f) (first.map ρ) (cap.map ρ)) (by simp [Instr.makeFunc]) ?_;simp only [VR];exact⟨first.toList.map ρ,cap.toList.map ρ,by congr 1<;> (apply Array.ext';simp),hρ.list (fun x hx=>by simp only [Op.operands,Array.mem_append];exact .inl (by simpa using hx)) hf,hρ.list (fun x hx=>by simp only [Op.operands,Array.mem_append];exact .inr (by simpa using hx)) hc⟩
   ·cases h0
 · rename_i name first cap
   split at h0
   · rename_i rc hf;cases hc:cap.isEmpty with
     |false=>rw [hc]at h0;cases h0
     | true=>
      rw [hc]at h0;simp only [cond]at h0;cases h0;obtain⟨u,us,hu1,hu2,hu3⟩ := (hρ.list (fun x hx=>by simp only [Op.operands,Array.mem_append];exact .inl (by simpa using hx)) hf).cons_inv;rw [hu3.nil_inv]at hu1;have e1:first.map ρ= #[u] :=by apply Array.ext';simpa using hu1
      have e2:cap.map ρ= #[] :=by have:=Array.isEmpty_iff.1 hc;subst this;simp
      exact aU r (cv:=.func (.method name) #[u] #[]) (by simp [Instr.makeFunc,e1,e2]) (by simp only [VR];exact⟨u,rfl,hu2⟩)
   ·cases h0
 · rename_i t path f pr first cap
   split at h0
   · rename_i rc hp hf;cases hc:cap.isEmpty with
     |false=>rw [hc]at h0;cases h0
     | true=>
      rw [hc]at h0;simp only [cond]at h0;cases h0;obtain⟨u,us,hu1,hu2,hu3⟩ := (hρ.list (fun x hx=>by simp only [Op.operands,Array.mem_append];exact .inl (by simpa using hx)) hf).cons_inv;rw [hu3.nil_inv]at hu1;have e1:first.map ρ= #[u] :=by apply Array.ext';simpa using hu1
      have e2:cap.map ρ= #[] :=by have:=Array.isEmpty_iff.1 hc;subst this;simp
      have e3:path= #[] :=by apply Array.ext';simpa using hp
      exact aU r (cv:=.func (.via t #[] f pr) #[u] #[]) (by simp [Instr.makeFunc,e1,e2,e3]) (by simp only [VR];exact⟨u,rfl,hu2⟩)
   ·cases h0
 · -- makeMap
   cases h0;obtain⟨q1,q2⟩ :=r.new (.map [] 0) (.map #[] 0) 0 (fun _ _ _ _ hH=> ⟨#[],hH,by simp [ERs]⟩);refine nq (by simp [cK]) ?_;refine jP (s:=Instr.makeMap _ (Option.map ρ none)) (cv:=.map (some w.heap.size)) (by simp [Instr.makeMap]) ?_ q1 q2;simp only [VR];exact⟨_,Emb.put_same _ _ _,rfl⟩
 · -- makeSlice
   rename_i t l c;obtain⟨a,b,ha,hb,h0⟩ :=fL h0;split at h0
   · rename_i k1 n k2 m;split at h0
     · rename_i e hu;split at h0
       · rename_i s z inf hs hz hinf;split at h0
         · rename_i hnm;cases hc: (ble s 40&&ble 1 s&&beq z.cells.length s&&ble inf.bytes 1000)with
           |false=>rw [hc]at h0;cases h0
           | true=>
            rw [hc]at h0;simp only [cond]at h0;cases h0;simp only [iO,bH,and_eq_true,decide_eq_true_eq]at hc;obtain⟨⟨⟨hs40,hs1⟩,hzl⟩,hby⟩ :=hc;have e1:=hρ _ (by simp [Op.operands]) _ ha;have e2:=hρ _ (by simp [Op.operands]) _ hb;simp only [VR]at e1 e2;obtain⟨cz,z1,z2⟩ :=gI hz;have hzs:cz.cells.size=s:=by have:= (z2 E).cells.length;simp only [Array.length_toList]at this;omega
            obtain⟨nn,rfl⟩ :=Int.eq_ofNat_of_zero_le hnm.1;obtain⟨mm,rfl⟩ :=Int.eq_ofNat_of_zero_le (show 0≤m by omega);have hl1:IntKind.i64.wrap (nn:Int) =nn:=wrap_small (by omega);have hl2:IntKind.i64.wrap (mm:Int) =mm:=wrap_small (by omega);have zr:=aBK (z2 E).cells mm (by omega);rw [hzs]at zr;obtain⟨q1,q2⟩ :=jQ r zr e;simp only [Int.toNat_natCast];have hbig:¬ ((inf.bytes:Int) * (mm:Int) >2 ^ 48) :=by
             have h3:inf.bytes*mm≤1000*100000:=mul_le_mul hby (by omega);rw [←Int.natCast_mul];generalize inf.bytes*mm=q at h3;omega
            have hcond:¬ ((((mm:Int) <0||decide ((inf.bytes:Int) * (mm:Int) >2 ^ 48)) =true∨ (nn:Int) <0) ∨ (nn:Int) > (mm:Int)) :=by
             simp only [hbig,decide_false,Bool.or_false,decide_eq_true_eq];omega
            refine nq (by simp [cK]) ?_;refine jP (cv:=.slice (some ⟨w.heap.size,0,none⟩) nn mm) ?_ (pR w h _ nn mm s mm true (by omega) (le_refl _) (fun _=>rfl) (by simp)) q1 q2;have hne1:¬ ((mm:Int) <0) :=by omega
            have hne2:¬ ((nn:Int) <0) :=by omega
            have hne3:¬ ((nn:Int) > (mm:Int)) :=by omega
            simp only [Instr.makeSlice,Sem.run_bind,aB hu,Result.andThen_ok,e1,e2,aBJ,cS hinf,hl1,hl2];rw [if_neg (by simp only [Bool.or_eq_true,decide_eq_true_eq,gt_iff_lt];omega)];simp only [Sem.run_bind,run_askRoom,Result.andThen_ok,bS hs,Int.toNat_natCast];have fin:∀z':Array Value,z'=cz.cells∨mm*s=0→ (⟨((Array.range (mm*s)).map (fun i=>cz.cells[i % s]!)).toList⟩ :Array Value) = (Array.range (mm*s)).map (fun x=>z'[x % z'.size]!) :=by
             intro z' hz';rcases hz' with rfl|h0
             ·rw [hzs]
             · have e0:Array.range 0= #[] :=rfl;rw [h0,e0];simp
            by_cases h0:mm*s=0
            · rw [if_pos h0,fin #[] (.inr h0)];simp [newRow]
            · rw [if_neg h0,fin cz.cells (.inl rfl)];simp [newRow,z1]
         ·cases h0
       ·cases h0
     ·cases h0
   ·cases h0
 · -- slice
   rename_i t x lo hi mx;obtain⟨a,ha,h0⟩ :=cH h0;split at h0
   · rename_i l1 l2 l3 e1 e2 e3;split at h0
     · rename_i b1 b2 b3 d1 d2 d3;obtain⟨v,hv,rfl⟩ :=dC h0;obtain⟨cv,k1,k2⟩ :=aHp (w:=w) hv (hρ _ (by simp [Op.operands]) _ ha) (rA d1 (kH hρ (fun y hy=>by subst hy;simp [Op.operands]) e1)) (rA d2 (kH hρ (fun y hy=>by subst hy;simp [Op.operands]) e2)) (rA d3 (kH hρ (fun y hy=>by subst hy;simp [Op.operands]) e3));exact aU r k1 k2
     ·cases h0
   ·cases h0
 · -- fieldAddr
   rename_i t x f;obtain⟨a,ha,h0⟩ :=cH h0;split at h0
   · rename_i b off;split at h0
     · rename_i o' ho;cases h0;have:=hρ _ (by simp [Op.operands]) _ ha;simp only [VR]at this;obtain⟨L,hE,hL⟩ :=this;exact aU r (cv:=.pointer (some ⟨L.blk,L.sh+off+o',none⟩)) (by rw [hL];exact sC ho _ _) (by simp only [VR];exact⟨L,hE,by rw [add_assoc]⟩)
     ·cases h0
   ·cases h0
 · -- field
   rename_i t x f;obtain⟨a,ha,h0⟩ :=cH h0;split at h0
   · rename_i cs;have hv:=hρ _ (by simp [Op.operands]) _ ha;simp only [VR]at hv;obtain⟨us,hL,hus⟩ :=hv;split at h0
     · rename_i fs hu;split at h0
       · rename_i fd hfd;split at h0
         · rename_i d s hd hs;have hp:∃v,(bif isAggD d then some (AV.agg ((cs.drop fd.offset).take s))else cs[fd.offset]?) =some v∧out= .val v h:=by
            cases hg:isAggD d with
            |true=>rw [hg]at h0;simp only [cond]at h0;cases h0;exact⟨_,rfl,rfl⟩
            |false=>rw [hg]at h0;simp only [cond]at h0;obtain⟨v,hv,rfl⟩ :=dC h0;exact⟨v,hv,rfl⟩
           obtain⟨v,hv,rfl⟩ :=hp;obtain⟨cv,k1,k2⟩ :=aD1 (w:=w) (cs:= ⟨us⟩) hd hs hus hv;exact aU r (by simp [Instr.field,aB hu,hfd,hL,asAgg,k1]) k2
         ·cases h0
       ·cases h0
     ·cases h0
   ·cases h0
 · -- indexAddr
   rename_i t x ix;obtain⟨a,b,ha,hb,h0⟩ :=fL h0;split at h0
   · rename_i e b' off len cap esz ex hu;split at h0
     · rename_i k s hk hs;cases hc:beq s esz with
       |false=>rw [hc]at h0;cases h0
       | true=>
        rw [hc]at h0;simp only [cond]at h0;cases h0;have:=Nat.eq_of_beq_eq_true hc;subst this;obtain⟨kk,hci,hlt⟩ :=kG hk (hρ _ (by simp [Op.operands]) _ hb);have hv:=hρ _ (by simp [Op.operands]) _ ha;simp only [VR]at hv;obtain⟨L,off',cap',hE,hL,g1,g2,g3,g4,g5⟩ :=hv;have hoff:=g4 (by omega);subst hoff;refine aU r (cv:=.pointer (some ⟨L.blk,L.sh+off+k*s,none⟩)) ?_ (by simp only [VR];exact⟨L,hE,by rw [add_assoc]⟩);simp [Instr.indexAt,hci,asIntOf,hL,aB hu,Nat.not_le.2 hlt,bS hs,eV]
     ·cases h0
   · rename_i len e b' off hu;split at h0
     · rename_i k s hk hs;cases h0;obtain⟨kk,hci,hlt⟩ :=kG hk (hρ _ (by simp [Op.operands]) _ hb);have hv:=hρ _ (by simp [Op.operands]) _ ha;simp only [VR]at hv;obtain⟨L,hE,hL⟩ :=hv;refine aU r (cv:=.pointer (some ⟨L.blk,L.sh+off+k*s,none⟩)) ?_ (by simp only [VR];exact⟨L,hE,by rw [add_assoc]⟩);simp [Instr.indexAt,hci,asIntOf,hL,aB hu,Nat.not_le.2 hlt,bS hs,eV,Instr.sureAddr]
     ·cases h0
   ·cases h0
 · -- index
   rename_i t x ix;obtain⟨a,b,ha,hb,h0⟩ :=fL h0;split at h0
   · rename_i l n hu;split at h0
     · rename_i k hk;cases h0;obtain⟨kk,hci,hlt⟩ :=kG hk (hρ _ (by simp [Op.operands]) _ hb);have hv:=hρ _ (by simp [Op.operands]) _ ha;simp only [VR]at hv;refine aU r (cv:=.int .u8 ((n / 256 ^ k % 256:Nat) :Int)) ?_ (by simp only [VR];rfl);have hg: (fU l n)[k]?=some (UInt8.ofNat (n / 256 ^ k % 256)) :=by
        have h1:=iQ l n k hlt;have h2:k< (fU l n).size:=by rw [lO];exact hlt
        rw [getElem?_pos (fU l n) k h2];congr 1;have h3:= (List.getElem?_eq_some_iff.1 h1);obtain⟨h4,h5⟩ :=h3;rw [←h5];rfl
       simp [Instr.index,hci,asIntOf,hv,aB hu,hg]
     ·cases h0
   · rename_i len e cs hu;have hv:=hρ _ (by simp [Op.operands]) _ ha;simp only [VR]at hv;obtain⟨us,hL,hus⟩ :=hv;split at h0
     · rename_i k d s hk hd hs;obtain⟨kk,hci,hlt⟩ :=kG hk (hρ _ (by simp [Op.operands]) _ hb);have hp:∃v,(bif isAggD d then some (AV.agg ((cs.drop (k*s)).take s))else cs[k*s]?) =some v∧out= .val v h:=by
        cases hg:isAggD d with
        |true=>rw [hg]at h0;simp only [cond]at h0;cases h0;exact⟨_,rfl,rfl⟩
        |false=>rw [hg]at h0;simp only [cond]at h0;obtain⟨v,hv,rfl⟩ :=dC h0;exact⟨v,hv,rfl⟩
       obtain⟨v,hv,rfl⟩ :=hp;obtain⟨cv,k1,k2⟩ :=aD1 (w:=w) (cs:= ⟨us⟩) hd hs hus hv;exact aU r (by simp [Instr.index,hci,asIntOf,hL,aB hu,Nat.not_le.2 hlt,bS hs,k1]) k2
     ·cases h0
   ·cases h0
 · -- lookup
   obtain⟨a,b,ha,hb,h0⟩ :=fL h0;obtain⟨v,hv,rfl⟩ :=dC h0;obtain⟨cv,k1,k2⟩ :=aFQ r hv (hρ _ (by simp [Op.operands]) _ ha) (hρ _ (by simp [Op.operands]) _ hb);exact aU r k1 k2
 · -- mapUpdate
   rename_i t m k x;obtain⟨a,b,ha,hb,h0⟩ :=fL h0;obtain⟨c,hc,h0⟩ :=cH h0;obtain⟨h',hv,rfl⟩ :=sB h0;obtain⟨w',k1,k2,k3⟩ :=rB r hv (hρ _ (by simp [Op.operands]) _ ha) (hρ _ (by simp [Op.operands]) _ hb) (hρ _ (by simp [Op.operands]) _ hc);refine nq (by simp [cK]) ?_;exact uU k1 k2 k3
 · rename_i t m k x;obtain⟨a,b,ha,hb,h0⟩ :=fL h0;obtain⟨c,hc,h0⟩ :=cH h0;obtain⟨h',hv,rfl⟩ :=sB h0;obtain⟨w',k1,k2,k3⟩ :=rB r hv (hρ _ (by simp [Op.operands]) _ ha) (hρ _ (by simp [Op.operands]) _ hb) (hρ _ (by simp [Op.operands]) _ hc);refine nq (by simp [cK]) ?_;exact uU k1 k2 k3
 · -- mapEntry
   obtain⟨a,b,ha,hb,h0⟩ :=fL h0;obtain⟨v,h',hv,rfl⟩ :=aGg h0;obtain⟨cv,w',k1,k2,k3,k4⟩ :=aC4 r hv (hρ _ (by simp [Op.operands]) _ ha) (hρ _ (by simp [Op.operands]) _ hb);refine nq (by simp [cK]) ?_;exact jP k1 k2 k3 k4
 · -- entryStore
   rename_i t m s x;obtain⟨a,b,ha,hb,h0⟩ :=fL h0;obtain⟨c,hc,h0⟩ :=cH h0;obtain⟨h',hv,rfl⟩ :=sB h0;obtain⟨w',k1,k2,k3⟩ :=aAB r t hv (hρ _ (by simp [Op.operands]) _ ha) (hρ _ (by simp [Op.operands]) _ hb) (hρ _ (by simp [Op.operands]) _ hc);refine nq (by simp [cK]) ?_;exact uU k1 k2 k3
 · -- range
   rename_i t x;obtain⟨a,ha,h0⟩ :=cH h0;split at h0
   · rename_i l n hu;cases h0;have hv:=hρ _ (by simp [Op.operands]) _ ha;simp only [VR]at hv;obtain⟨q1,q2⟩ :=r.new (.siter l n 0) (.stringIter (fU l n) 0) 0 (fun _ _ _ _ hH=> ⟨hH,rfl⟩);refine nq (by simp [cK]) ?_;refine jP (cv:=.pointer (some ⟨w.heap.size,0,none⟩)) (by simp [Instr.range,aB hu,hv]) ?_ q1 q2;exact wT w h 0
   · rename_i kt et m hu;split at h0
     · rename_i es clock hm;cases h0;have hv:=hρ _ (by simp [Op.operands]) _ ha;simp only [VR]at hv;obtain⟨Lm,hE,hv⟩ :=hv;obtain⟨L',k1,ES,k2,k3⟩ :=r.obj _ _ hm;rw [hE]at k1;cases k1;obtain⟨q1,q2⟩ :=r.new (.miter m clock [] clock) (.mapIter (some Lm.blk) clock #[] clock) 0 (fun E' H' hle he hH=> ⟨Lm,hH,hle.1 _ _ hE,rfl⟩);refine nq (by simp [cK]) ?_;refine jP (cv:=.pointer (some ⟨w.heap.size,0,none⟩)) (by simp [Instr.range,aB hu,hv,dV k2]) ?_ q1 q2;exact wT w h 0
     ·cases h0
   ·cases h0
 · -- next of a map
   rename_i it;obtain⟨a,ha,h0⟩ :=cH h0;split at h0
   · rename_i rr;have hv:=hρ _ (by simp [Op.operands]) _ ha;simp only [VR]at hv;obtain⟨L,hE,hL⟩ :=hv;split at h0
     · rename_i v h' hm;cases h0;have hz:L.sh=0:=by
        unfold aF9 at hm;split at hm
        · rename_i m since seen last hmi;obtain⟨L',g1,Lm,g2,g3,g4⟩ :=r.obj _ _ hmi;rw [hE]at g1;cases g1;exact g4
        ·cases hm
       obtain⟨v1,h1,g1,cv,w',g2,g3,g4,g5⟩ :=aCw (P:=P) r hm hE hz;simp only [List.mem_singleton,Prod.mk.injEq]at g1;obtain⟨rfl,rfl⟩ :=g1;refine nq (by simp [cK]) ?_;refine jP (cv:=cv) (w':=w') ?_ g3 g4 g5;rw [hL,hz];exact g2 _
     ·cases h0
   ·cases h0
 · -- next
   rename_i it;obtain⟨a,ha,h0⟩ :=cH h0;split at h0
   · rename_i rr;have hv:=hρ _ (by simp [Op.operands]) _ ha;simp only [VR]at hv;obtain⟨L,hE,hL⟩ :=hv;split at h0
     · rename_i l n pos hm;obtain⟨L',g1,g2,g3⟩ :=r.obj _ _ hm;rw [hE]at g1;cases g1;have hz:L.sh+0=0:=by omega
       rw [hz]at hL;cases hp:blt pos l with
       | true=>
        rw [hp]at h0;simp only [cond]at h0;split at h0
        · rename_i c d hc;cases h0;obtain⟨d1,d2⟩ :=aHu hc;have q:=r.setObj (o':=.siter l n (Nat.add pos d)) (.stringIter (fU l n) (pos+d)) hm hE rfl rfl (fun H' hH=> ⟨hH,g3⟩);refine nq (by simp [cK]) ?_;refine jP (cv:=.tuple #[.bool true,.int .i64 pos,.int .i32 c]) (w':=bZ w L.blk (.stringIter (fU l n) (pos+d))) ?_ ?_ q.1 q.2
          · have hs:pos< (fU l n).size:=by rw [lO];exact d2
            have:=oO (P:=P) (ob':=.stringIter (fU l n) (pos+d)) g2 (fun _ _ _ e=>by cases e);simp [Instr.next,hL,aAF g2,hs,d1,this,goInt]
          · simp only [VR];exact⟨_,rfl,VRs.cons (by simp [VR]) (VRs.cons (by simp [VR]) (VRs.cons (by simp [VR]) (VRs.nil E)))⟩
        ·cases h0
       | false=>
        rw [hp]at h0;simp only [cond]at h0;cases h0;have hs:¬pos< (fU l n).size:=by rw [lO];intro e;rw [cO]at hp;simp [e]at hp
        refine aU r (cv:=.tuple #[.bool false]) ?_ (by simp only [VR];exact⟨_,rfl,VRs.cons (by simp [VR]) (VRs.nil E)⟩);simp [Instr.next,hL,aAF g2,hs]
     ·cases h0
   ·cases h0
 · -- entry
   rename_i it;obtain⟨a,ha,h0⟩ :=cH h0;split at h0
   · rename_i rr;have hv:=hρ _ (by simp [Op.operands]) _ ha;simp only [VR]at hv;obtain⟨L,hE,hL⟩ :=hv;obtain⟨v,hm,rfl⟩ :=dC h0;obtain⟨hz,cv,g2,g3⟩ :=aHt (P:=P) r hm hE;refine aU r (cv:=cv) ?_ g3;rw [hL,hz];exact g2
   ·cases h0
 · -- typeAssert
   obtain⟨a,ha,h0⟩ :=cH h0;obtain⟨v,hv,rfl⟩ :=dC h0;obtain⟨cv,k1,k2⟩ :=aAE (w:=w) hv (hρ _ (by simp [Op.operands]) _ ha);exact aU r k1 k2
 · -- extract
   rename_i x i;obtain⟨a,ha,h0⟩ :=cH h0;split at h0
   · rename_i vs;obtain⟨v,hv,rfl⟩ :=dC h0;have hx:=hρ _ (by simp [Op.operands]) _ ha;simp only [VR]at hx;obtain⟨us,hL,hus⟩ :=hx;obtain⟨cv,k1,k2⟩ :=hus.get _ _ hv;have k1': (⟨us⟩ :Array Value)[i]?=some cv:=by rw [show(⟨us⟩ :Array Value) =us.toArray from rfl,List.getElem?_toArray];exact k1
     exact aU r (by simp only [hL,Instr.extract,k1',Sem.run_pure]) k2
   ·cases h0
 · -- call
   obtain⟨g1,g2⟩ :=aJV (ty:=o.type) r hρ h0;refine⟨g1,fun hk=>g2 ?_⟩;revert hk;rename_i c;simp only [cK];split<;>rename_i hcc<;>simp [hcc]
 · -- defer
   rename_i c;split at h0
   · rename_i args f hargs hf;split at h0
     · rename_i g first cap hg
       cases hc:eH P g with
       |false=>rw [hc]at h0;cases h0
       | true=>
        rw [hc]at h0;simp only [cond]at h0;cases h0;have hv:=hρ _ (by simp [Op.operands,Call.operands,hf]) _ hg;simp only [VR]at hv;obtain⟨a,b,hL,h1,h2⟩ :=hv;have hm:c.args.map ρ= ⟨c.args.toList.map ρ⟩ :=by apply Array.ext';simp
        refine nq (by simp [cK]) ?_;refine⟨{target:=.fn (.func g) ⟨b⟩,args:= ⟨a⟩ ++ ⟨c.args.toList.map ρ⟩},by simp [resolve,hf,hL,hm,Deferred.ofValue],⟨b,a++c.args.toList.map ρ,?_,(h1.append (hρ.list (fun x hx=>by simp only [Op.operands,Call.operands,Array.mem_append];exact .inr (by simpa using hx)) hargs)).append h2⟩⟩;congr 1;apply Array.ext';simp
     ·cases h0
   ·cases h0
 · -- panic
   obtain⟨a,ha,h0⟩ :=cH h0;split at h0
   · rename_i t v;cases h0;have hv:=hρ _ (by simp [Op.operands]) _ ha;refine nq (by simp [cK]) ?_;refine⟨_,?_,hv⟩;simp only [VR]at hv;obtain⟨u,hL,hu⟩ :=hv;simp [hL,Instr.panic]
   ·cases h0
 ·cases h0
end
end
end Go.Hb
