/- A machine on abstract values, its soundness, ways, plain laws. -/
import GoSem.Dispatch
import GoSem.Step
import Derived.Calls
import Derived.Laws.Sem
import Derived.Laws.NewBlocks
set_option linter.defProp false
set_option linter.unusedVariables false
set_option linter.unusedSimpArgs false
set_option linter.unusedSectionVars false
set_option maxRecDepth 100000
namespace Go.Hb
open Nat (beq ble blt div le_refl le_trans lor lt_irrefl lt_of_lt_of_le mod mod_mul mul_assoc mul_comm pow pow_succ testBit)
noncomputable section
inductive T (α:Type) where
 |leaf
 |node (l:T α) (v:Option α) (r:T α)
 deriving Inhabited
noncomputable def T.get {α:Type}(t:T α) :Nat→Option α:=
 T.rec (fun _=>none) (fun _ v _ gl gr k=>bif beq k (nat_lit 1)then v else bif beq (mod k (nat_lit 2)) (nat_lit 0)then gl (div k (nat_lit 2))else gr (div k (nat_lit 2))) t
noncomputable def T.setF {α:Type}(x:Option α)(f:Nat) :Nat→T α→T α:=
 Nat.rec (fun _ t=>t) (fun _ ih k t=>T.casesOn t
  (bif beq k (nat_lit 1)then .node .leaf x .leaf else bif beq (mod k (nat_lit 2)) (nat_lit 0)then .node (ih (div k (nat_lit 2)) .leaf) none .leaf else .node .leaf none (ih (div k (nat_lit 2)) .leaf))
  (fun l v r=>bif beq k (nat_lit 1)then .node l x r else bif beq (mod k (nat_lit 2)) (nat_lit 0)then .node (ih (div k (nat_lit 2)) l) v r else .node l v (ih (div k (nat_lit 2)) r))) f
noncomputable def T.mk {α:Type}(l:T α)(v:Option α)(r:T α) :T α:=
 T.casesOn l (Option.casesOn v (T.casesOn r .leaf (fun _ _ _=>.node l v r)) (fun _=>.node l v r)) (fun _ _ _=>.node l v r)
noncomputable def T.delF {α:Type}(f:Nat) :Nat→T α→T α:=
 Nat.rec (fun _ t=>t) (fun _ ih k t=>T.casesOn t .leaf
  (fun l v r=>bif beq k (nat_lit 1)then T.mk l none r else bif beq (mod k (nat_lit 2)) (nat_lit 0)then T.mk (ih (div k (nat_lit 2)) l) v r else T.mk l v (ih (div k (nat_lit 2)) r))) f
def T.at {α:Type}(t:T α)(k:Nat) :Option α:=t.get (Nat.succ k)
def T.put {α:Type}(t:T α)(k:Nat)(x:α) :T α:=T.setF (some x) (Nat.succ (Nat.succ k)) (Nat.succ k) t
def T.del {α:Type}(t:T α)(k:Nat) :T α:=T.delF (Nat.succ (Nat.succ k)) (Nat.succ k) t
inductive AV where
 |bool (b:Bool)
 |int (k:IntKind) (n:Int)
 |str (len n:Nat)
 |ptr (b off:Nat)
 |nilp
 |slice (b off len cap esz:Nat) (exact:Bool)
 |nils
 |map (r:Nat)
 |nilm
 |func (f:Nat) (first cap:List AV)
 |yield (l:Nat)
 |meth (name:String) (recv:AV)
 |via (t f:Nat) (pr:Bool) (recv:AV)
 |nilf
 |iface (t:Nat) (v:AV)
 |nili
 |agg (vs:List AV)
 |tup (vs:List AV)
 |ilst (e:Nat) (xs:List AV) (ex:Bool)
 |iptr (cs:List AV)
 |gl (b e off len:Nat) (ex:Bool)
 |ep (b e i o:Nat)
 |val (v:Value)
 deriving Inhabited
def AV.undef :AV:=.tup []
def AV.cells :AV→List AV
 | .agg vs=>vs
 | .val v=>v.cells.toList.map .val
 |v=>[v]
def AV.one :AV→Bool
 | .agg _| .tup _=>false
 | .val v=>match v with
  | .slice .. =>true
  | .pointer _=>true
  |_=>false
 |_=>true
def aD :List UInt8→Nat
 | [] =>0
 |b::bs=>b.toNat+256*aD bs
def aJ :Nat→Nat→List UInt8
 |0,_=>[]
 |l+1,n=>UInt8.ofNat (n % 256) ::aJ l (n / 256)
def aBY :Value→Option AV
 | .bool b=>some (.bool b)
 | .int k n=>some (.int k n)
 | .string s=>some (.str s.data.size (aD s.data.toList))
 | .pointer none=>some .nilp
 | .slice none 0 0=>some .nils
 | .map none=>some .nilm
 | .func (.func f) ⟨[]⟩ ⟨[]⟩ =>some (.func f [] [])
 | .nilFunc=>some .nilf
 | .nilIface=>some .nili
 |_=>none
def xT :List Value→Option (List AV)
 | [] =>some []
 | v::vs=>match aBY v,xT vs with
  |some a,some aS=>some (a::aS)
  |_,_=>none
def aMD :Value→Option AV
 | .agg vs=>match xT vs.toList with
  |some l=>some (.agg l)
  |none=>none
 | .tuple ⟨[]⟩ =>some .undef
 | .iface t v=>match aBY v with
  |some a=>some (.iface t a)
  |none=>none
 |v=>aBY v
inductive ADef where
 |fn (f:Nat) (args:List AV)
 |col (r:Nat)
 deriving Inhabited
inductive AObj where
 |cells (t:T AV) (n:Nat) (older:List Nat) (sup:Bool)
 |map (es:List (AV×AV×Nat)) (clock:Nat)
 |siter (len n pos:Nat)
 |loop (st:LoopState) (pending:Option Code) (fn:Nat) (tm:T AV) (nt:Nat) (params:List Nat) (assign body:Code) (defers:Nat)
 |defd (taken:Bool)
 |lst (e:Nat) (xs:List AV)
 |lstv (u:Value) (e:Nat) (xs:List AV)
 |miter (m since:Nat) (seen:List Nat) (last:Nat)
 |zone (own:Bool) (rs:List Nat) (Z:List Nat→List (Nat×Nat×Nat) → (Nat→Option (Array Value)) →Array Obj→Prop)
 deriving Inhabited
structure Hp where
 t:T AObj
 nb:Nat
 deriving Inhabited
def Hp.look (h:Hp)(b:Nat) :Option AObj:=h.t.at b
def Hp.set (h:Hp)(b:Nat)(o:AObj) :Hp:={h with t:=h.t.put b o}
def Hp.del (h:Hp)(b:Nat) :Hp:={h with t:=h.t.del b}
def Hp.delAll (h:Hp) :List Nat→Hp
 | [] =>h
 |b::bs=> (h.del b).delAll bs
def Hp.new (h:Hp)(o:AObj) :Hp:= ⟨h.t.put h.nb o,Nat.succ h.nb⟩
def putCells :T AV→Nat→List AV→T AV
 |t,_,[] =>t
 |t,i,v::vs=>putCells (t.put i v) (Nat.succ i) vs
def getCells (t:T AV) :Nat→Nat→Option (List AV)
 |_,0=>some []
 | i,n+1=>match t.at i with
  |none=>none
  | some v=>match getCells t (Nat.succ i) n with
   |none=>none
   |some vs=>some (v::vs)
def Hp.newCells (h:Hp)(vs:List AV) :Hp:=h.new (.cells (putCells .leaf 0 vs) vs.length [] false)
def Hp.load1 (h:Hp)(b off:Nat) :Option AV:=
 match h.look b with
 |some (.cells t _ _ _) =>t.at off
 |_=>none
def Hp.loadN (h:Hp)(b off n:Nat) :Option (List AV) :=
 match h.look b with
 |some (.cells t _ _ _) =>getCells t off n
 |_=>none
def cG :List AV→Bool
 | [] =>true
 |v::vs=>v.one&&cG vs
def Hp.storeN (h:Hp)(b off:Nat)(vs:List AV) :Option Hp:=
 match h.look b with
 | some (.cells t n older false) =>
  match getCells t off vs.length with
  |none=>none
  |some _=>bif cG vs then some ((h.delAll older).set b (.cells (putCells t off vs) n [] false))else none
 |_=>none
def isAggD :TypeDesc→Bool
 | .struct _| .array _ _=>true
 |_=>false
def zeroOf (P:Program)(t:TypeId) :Option AV:=
 match P.info? t with
 | some i=>match i.zero with
  |some v=>aMD v
  |none=>none
 |none=>none
def aR (P:Program)(t:TypeId) :Option Nat:= (P.info? t).map (·.size)
def aME (P:Program)(h:Hp)(t:TypeId)(b off:Nat) :Option AV:=
 match P.underlying t with
 |none=>none
 | some d=>bif isAggD d then
   match aR P t with
   |none=>none
   | some n=>match h.loadN b off n with
    |some vs=>some (.agg vs)
    |none=>none
  else h.load1 b off
def aJ7 (P:Program)(h:Hp)(t:TypeId)(b off:Nat)(v:AV) :Option Hp:=
 match aR P t with
 |none=>none
 |some n=>bif beq v.cells.length n then h.storeN b off v.cells else none
def i64 (n:Int) :Bool:=decide (-9223372036854775808≤n) &&decide (n≤9223372036854775807)
def vR (k:IntKind)(n:Int) :Int:=k.wrap n
def jA (l n l' n':Nat) :Bool:=beq l l'&&beq (mod n (pow 256 l)) (mod n' (pow 256 l'))
def aJ8 (op:BinOp)(k:IntKind)(a b:Int) :Option AV:=
 match op with
 | .add=>some (.int k (vR k (a+b)))
 | .sub=>some (.int k (vR k (a-b)))
 | .mul=>some (.int k (vR k (a*b)))
 | .quo=>if b=0 then none else some (.int k (vR k (a.tdiv b)))
 | .rem=>if b=0 then none else some (.int k (a.tmod b))
 | .eql=>some (.bool (a==b))
 | .neq=>some (.bool (a != b))
 | .lss=>some (.bool (a<b))
 | .leq=>some (.bool (a≤b))
 | .gtr=>some (.bool (a>b))
 | .geq=>some (.bool (a≥b))
 | .and=>some (.int k (k.wrap (BitVec.ofInt k.bits a &&& BitVec.ofInt k.bits b).toNat))
 | .xor=>some (.int k (k.wrap (BitVec.ofInt k.bits a ^^^ BitVec.ofInt k.bits b).toNat))
 |_=>none
def aJ9 (op:BinOp)(l n l' n':Nat) :Option AV:=
 match op with
 | .add=>bif ble (l+l') 1000000000 then some (.str (l+l') (mod n (pow 256 l) +pow 256 l*n'))else none
 | .eql=>some (.bool (jA l n l' n'))
 | .neq=>some (.bool (!jA l n l' n'))
 | .lss=>some (.bool (Op.bytesLess (aJ l n) (aJ l' n')))
 | .geq=>some (.bool (!Op.bytesLess (aJ l n) (aJ l' n')))
 |_=>none
def lD :AV→AV→Option Bool
 | .int k a,.int k' b=>if k=k' then some (a==b)else none
 | .bool a,.bool b=>some (a==b)
 | .str l n,.str l' n'=>some (jA l n l' n')
 |_,_=>none
def aeq (P:Program)(t:TypeId)(x y:AV) :Option Bool:=
 match P.underlying t,x,y with
 |some .bool,.bool a,.bool b=>some (a==b)
 |some (.pointer _),.nilp,.nilp=>some true
 |some (.pointer _),.nilp,.ptr _ _=>some false
 |some (.pointer _),.ptr _ _,.nilp=>some false
 |some (.interface _),.nili,.iface _ _=>some false
 |some (.interface _),.iface _ _,.nili=>some false
 |some (.func _ _ _),.nilf,.nilf=>some true
 |some (.func _ _ _),.nilf,.func _ _ _=>some false
 |some (.func _ _ _),.func _ _ _,.nilf=>some false
 |some (.slice _),.nils,.nils=>some true
 |some (.slice _),.nils,.slice .. =>some false
 |some (.slice _),.slice ..,.nils=>some false
 |some (.slice _),.val (.slice (some _) _ _),.nils=>some false
 |some (.slice _),.gl _ _ _ (_+1) _,.nils=>some false
 |_,_,_=>none
def aT1 (P:Program)(op:BinOp)(t:TypeId)(x y:AV)(litx lity:Bool) :Option AV:=
 match x,y with
 | .int k a,.int k' b=>
  match op with
  | .shl=>if b<0 then none else some (.int k (k.wrap (a*2 ^ min b.toNat k.bits)))
  | .shr=>if b<0 then none else some (.int k (a.fdiv (2 ^ min b.toNat k.bits)))
  |_=>if k=k' then aJ8 op k a b else none
 | .str l n,.str l' n'=>aJ9 op l n l' n'
 | .nili,.nili=>
  bif litx||lity then
   match P.underlying t,op with
   |some (.interface _),.eql=>some (.bool true)
   |some (.interface _),.neq=>some (.bool false)
   |_,_=>none
  else none
 | _,_=>
  match op,aeq P t x y with
  | .eql,some b=>some (.bool b)
  | .neq,some b=>some (.bool (!b))
  |_,_=>none
def aun (op:UnOp)(x:AV) :Option AV:=
 match op,x with
 | .neg,.int k n=>some (.int k (vR k (0-n)))
 | .not,.bool b=>some (.bool (!b))
 |_,_=>none
def aBo :List AV→Option Nat
 | [] =>some 0
 | .int .u8 n::vs=>if 0≤n∧n<256 then(match aBo vs with
  |some m=>some (n.toNat+256*m)
  |none=>none)else none
 |_=>none
def sG (vs:List AV) :Option AV:=
 match aBo vs with
 |some n=>some (.str vs.length n)
 |none=>none
def sH (P:Program)(h:Hp)(src dst:TypeId)(x:AV) :Option AV:=
 match P.underlying src,P.underlying dst,x with
 |some (.int _),some (.int k),.int _ n=>some (.int k (vR k n))
 |some (.int _),some .string,.int _ n=>if 0≤n∧n<128 then some (.str 1 n.toNat)else none
 |some .string,some .string,.str l n=>some (.str l n)
 | some (.slice e),some .string,.slice b off len _ _ _=>
  match P.underlying e,h.loadN b off len with
  |some (.int .u8),some vs=>sG vs
  |_,_=>none
 |_,_,_=>none
def fD (i:AV)(len:Nat) :Option Nat:=
 match i with
 | .int _ n=>if 0≤n∧n<len then some n.toNat else none
 |_=>none
def eH (x:Option AV) :Option (Option Nat) :=
 match x with
 |none=>some none
 |some (.int _ n) =>if 0≤n then some (some n.toNat)else none
 |some _=>none
def oD (P:Program)(t:TypeId)(x:AV)(lo hi mx:Option Nat) :Option AV:=
 match P.underlying t,x with
 | some .string,.str len n=>
  match mx with
  |some _=>none
  | none=>
   let l:=lo.getD 0
   let h:=hi.getD len
   bif ble l h&&ble h len then some (.str (h-l) (div n (pow 256 l)))else none
 | some (.slice e),.slice b off len cap esz exact=>
  let l:=lo.getD 0
  let h:=hi.getD len
  match aR P e with
  |none=>none
  | some sz=>bif beq sz esz&&ble l h&&ble h cap then
   match mx,hi with
   |some m,some _=>bif ble h m&&ble m cap then some (.slice b (off+l*esz) (h-l) (m-l) esz true)else none
   |some _,none=>none
   |none,_=>some (.slice b (off+l*esz) (h-l) (cap-l) esz exact)
   else none
 | some (.slice e),.nils=>
  match mx,hi,aR P e with
  |some _,none,_=>none
  |_,_,none=>none
  |_,_,some _=>bif beq (lo.getD 0) 0&&beq (hi.getD 0) 0&&beq (mx.getD 0) 0 then some .nils else none
 |_,_=>none
def fE (place:Nat→Option (Nat×Nat))(cells:List AV) :List (Nat×AV) →Option (List AV)
 | [] =>some cells
 | (i,v) ::rest=>
  match place i with
  |none=>none
  | some (off,size) =>
   bif beq v.cells.length size&&ble (off+size) cells.length then
    fE place (cells.take off++v.cells++cells.drop (off+size)) rest
   else none
def aKa (P:Program)(t:TypeId)(parts:List (Nat×AV)) :Option AV:=
 match zeroOf P t,P.underlying t with
 | some z,some (.struct fs) =>
  match fE (fun i=>match fs[i]? with
   | some f=>match aR P f.type with
    |some s=>some (f.offset,s)
    |none=>none
   |none=>none) z.cells parts with
  |some cs=>bif fs.all (fun f=> (aR P f.type).isSome)then some (.agg cs)else none
  |none=>none
 | some z,some (.array _ e) =>
  match aR P e with
  |none=>none
  | some s=>match fE (fun i=>some (i*s,s)) z.cells parts with
   |some cs=>some (.agg cs)
   |none=>none
 |_,_=>none
def jR (cs:List AV) :Nat→List AV
 |0=>[]
 |n+1=>cs++jR cs n
def nG (P:Program)(t:TypeId)(len:Nat)(parts:List (Nat×AV)) :Option (List AV×Nat) :=
 match P.underlying t with
 | some (.slice e) =>
  match aR P e,zeroOf P e with
  | some s,some z=>
   bif ble (len*s) 1000&& !(beq s 0) &&beq z.cells.length s then
   match fE (fun i=>some (i*s,s)) (jR z.cells len) parts with
   |some cs=>some (cs,s)
   |none=>none else none
  |_,_=>none
 |_=>none
def nH (k:AV) :List (AV×AV×Nat) →Nat→Option (Option (Nat×AV))
 | [],_=>some none
 | e::es,i=>match lD k e.1 with
  |some true=>some (some (i,e.2.1))
  |some false=>nH k es (Nat.succ i)
  |none=>none
def plainKey :TypeDesc→AV→Bool
 | .int _,.int _ _=>true
 | .string,.str _ _=>true
 | .bool,.bool _=>true
 |_,_=>false
def setE (key val:AV) :List (AV×AV×Nat) →Nat→List (AV×AV×Nat)
 | [],_=>[]
 |e::es,0=> (key,val,e.2.2) ::es
 |e::es,i+1=>e::setE key val es i
def aFr :List (AV×AV×Nat) →Nat→Nat
 | [],_=>0
 |e::_,0=>e.2.2
 |_::es,i+1=>aFr es i
def xU (val:AV)(born:Nat) :List (AV×AV×Nat) →Option (List (AV×AV×Nat))
 | [] =>none
 | e::es=>bif beq e.2.2 born then some ((e.1,val,e.2.2) ::es)else match xU val born es with
  |some r=>some (e::r)
  |none=>none
def aBp (P:Program)(h:Hp)(t:TypeId)(x k:AV)(ok:Bool) :Option AV:=
 match P.underlying t with
 | some (.map kt et) =>
  match P.underlying kt,zeroOf P et with
  | some kd,some z=>
   bif plainKey kd k then
    let done (r:Option AV) :AV:=match r with
     |some v=>if ok then .tup [v,.bool true]else v
     |none=>if ok then .tup [z,.bool false]else z
    match x with
    | .nilm=>some (done none)
    | .map r=>match h.look r with
     | some (.map es _) =>match nH k es 0 with
      |some (some (_,v)) =>some (done (some v))
      |some none=>some (done none)
      |none=>none
     |_=>none
    |_=>none
   else none
  |_,_=>none
 |_=>none
def mD (P:Program)(h:Hp)(t:TypeId)(x k v:AV) :Option Hp:=
 match P.underlying t,x with
 | some (.map kt _),.map r=>
  match P.underlying kt,h.look r with
  | some kd,some (.map es clock) =>
   bif plainKey kd k then
    match nH k es 0 with
    |some (some (i,_)) =>some (h.set r (.map (setE k v es i) clock))
    |some none=>some (h.set r (.map (es++ [(k,v,clock)]) (Nat.succ clock)))
    |none=>none
   else none
  |_,_=>none
 |_,_=>none
def zZ (P:Program)(h:Hp)(t:TypeId)(x k:AV) :Option (AV×Hp) :=
 match P.underlying t,x with
 | some (.map kt et),.map r=>
  match P.underlying kt,h.look r,zeroOf P et with
  | some kd,some (.map es clock),some z=>
   bif plainKey kd k then
    match nH k es 0 with
    |some (some (i,v)) =>some (.tup [v,.int .i64 (aFr es i)],h.set r (.map (setE k v es i) clock))
    |some none=>some (.tup [z,.int .i64 clock],h.set r (.map (es++ [(k,z,clock)]) (Nat.succ clock)))
    |none=>none
   else none
  |_,_,_=>none
 |_,_=>none
def sJ (h:Hp)(x st v:AV) :Option Hp:=
 match x,st with
 | .map r,.int _ n=>
  if 0≤n then
  match h.look r with
  | some (.map es clock) =>match xU v n.toNat es with
   |some es'=>some (h.set r (.map es' clock))
   |none=>none
  |_=>none else none
 |_,_=>none
def aHr (P:Program)(h:Hp)(argTypes:Array TypeId)(e:TypeId)(sz:Nat)(x:AV) :Option (List AV×Nat) :=
 match argTypes[1]? with
 |none=>none
 | some xt=>match P.underlying xt,x with
  | some (.int _),.int .i64 n=>
   if 0≤n∧n<100000 then
    match zeroOf P e with
    |some z=>bif beq z.cells.length sz&& !(beq sz 0)then some (jR z.cells n.toNat,n.toNat)else none
    |none=>none
   else none
  |some (.int _),_=>none
  |some _,.nils=>some ([],0)
  | some _,.slice b off len _ esz _=>bif beq esz sz then match h.loadN b off (len*sz)with
   |some vs=>some (vs,len)
   |none=>none else none
  |_,_=>none
def aEp (h:Hp)(b off:Nat)(vs:List AV) :Option Hp:=
 match h.look b with
 | some (.cells t n older false) =>
  some ((h.delAll older).set b (.cells (putCells t off vs) (max n (off+vs.length)) [] false))
 |_=>none
def aappend (P:Program)(h:Hp)(argTypes:Array TypeId)(s x:AV) :Option (AV×Hp) :=
 match argTypes[0]? with
 |none=>none
 | some st =>match P.underlying st with
  | some (.slice e) =>
   match aR P e,P.info? e,zeroOf P e with
   | some sz,some inf,some z=>
    match aHr P h argTypes e sz x with
    |none=>none
    | some (vs,n) =>
     bif beq z.cells.length sz&&ble sz 40&&ble inf.bytes 1000&&ble 1 inf.bytes&&ble 1 sz&&cG vs&&ble n 1000000 then
     match s with
     | .nils=>bif beq n 0 then some (.nils,h)else some (.slice h.nb 0 n n sz false,h.newCells vs)
     | .slice b off len cap esz exact=>
      bif beq esz sz&&ble len 1000000&&ble cap 1000000 then
       bif ble (len+n) cap then
        (bif beq n 0 then some (.slice b off len cap esz exact,h)else
        match aEp h b (off+len*sz) vs with
        |some h'=>some (.slice b off (len+n) cap esz exact,h')
        |none=>none)
       else match h.loadN b off (len*sz)with
        |none=>none
        | some old=>bif exact then some (.slice h.nb 0 (len+n) (len+n) sz false,h.newCells (old++vs))else
         match h.look b with
         | some (.cells t k older false) =>
          bif ble k (off+len*sz)then
           some (.slice h.nb 0 (len+n) (len+n) sz false,
            (h.set b (.cells t k older true)).new (.cells (bif beq off 0 then putCells t (len*sz) vs else putCells .leaf 0 (old++vs)) (old.length+vs.length) (b::older) false))
          else none
         |_=>none
      else none
     |_=>none
     else none
   |_,_,_=>none
  |_=>none
abbrev zq0 := @List.getElem?_eq_some_iff
abbrev dC := @Bool.and_eq_true
abbrev lZ := @List.getElem?_eq_getElem
abbrev dR := @List.mem_cons_of_mem
abbrev oG := @List.mem_of_getElem?
abbrev dJ := @List.mem_cons_self
abbrev rY := @List.length_cons
abbrev zq7 := @List.mem_cons
abbrev pU := @List.length_append
abbrev zq9 := @List.append_assoc
abbrev rZ := @List.append_nil
abbrev lE := @Bool.true_and
abbrev pV := @List.getD_eq_getElem?_getD
abbrev xW := @Int.toNat_natCast
abbrev lP := @List.length_map
abbrev jP := @List.length_set
abbrev sA := @Bool.false_and
abbrev aT2 := @List.getElem?_map
abbrev eP := @Nat.eq_of_beq_eq_true
abbrev aDQ := @List.getElem?_cons_succ
abbrev wL := @List.getElem?_append_left
abbrev aHs := @List.mem_append_right
abbrev aDR := @List.getElem?_append_right
abbrev dS := @List.map_cons
abbrev zq24 := @List.mem_map
abbrev aFs := @List.mem_append_left
abbrev zq27 := @List.all_eq_true
abbrev zq28 := @List.mem_append
abbrev aKb := @List.getElem?_cons_zero
abbrev aNr := @List.map_append
abbrev zq32 := @List.mem_singleton
abbrev pW := @Array.getElem?_setIfInBounds_ne
abbrev jS := @Nat.zero_add
abbrev zq35 := @List.length_eq_zero_iff
abbrev aPG := @List.getElem?_eq_none
abbrev aT3 := @List.map_map
abbrev zq38 := @List.mem_iff_getElem?
abbrev aBg := @List.take_of_length_le
abbrev aHt := @List.flatten_cons
abbrev aDS := @List.cons_append
abbrev zq44 := @Array.getElem?_eq_some_iff
abbrev aAa := @Bool.false_eq_true
abbrev wM := @Array.getD_eq_getD_getElem?
abbrev oZ := @Array.getElem?_toList
abbrev aKc := @List.length_replicate
mutual
def AV.same :AV→AV→Bool
 | .bool a,.bool b=>a==b
 | .int k n,.int k' n'=>decide (k=k') &&decide (n=n')
 | .str l n,.str l' n'=>beq l l'&&beq n n'
 | .ptr b o,.ptr b' o'=>beq b b'&&beq o o'
 | .nilp,.nilp=>true
 | .slice b o l c e x,.slice b' o' l' c' e' x'=>beq b b'&&beq o o'&&beq l l'&&beq c c'&&beq e e'&&x==x'
 | .nils,.nils=>true
 | .map r,.map r'=>beq r r'
 | .nilm,.nilm=>true
 | .func f fs cs,.func f' fs' cs'=>beq f f'&&AV.sameL fs fs'&&AV.sameL cs cs'
 | .yield l,.yield l'=>beq l l'
 | .nilf,.nilf=>true
 | .iface t v,.iface t' v'=>beq t t'&&AV.same v v'
 | .nili,.nili=>true
 | .agg vs,.agg vs'=>AV.sameL vs vs'
 | .tup vs,.tup vs'=>AV.sameL vs vs'
 | .ilst e xs x,.ilst e' xs' x'=>beq e e'&&AV.sameL xs xs'&&x==x'
 | .iptr cs,.iptr cs'=>AV.sameL cs cs'
 | .gl b e o l x,.gl b' e' o' l' x'=>beq b b'&&beq e e'&&beq o o'&&beq l l'&&x==x'
 | .ep b e i o,.ep b' e' i' o'=>beq b b'&&beq e e'&&beq i i'&&beq o o'
 |_,_=>false
def AV.sameL :List AV→List AV→Bool
 | [],[] =>true
 |a::aS,b::bs=>AV.same a b&&AV.sameL aS bs
 |_,_=>false
end
inductive AItem where
 |code (c:Code)
 |inBlock (id:Nat)
 |inLoop (c:Code)
 |inScope (c:Code)
 |ops (all:Array Oper) (i:Nat) (rest:List Oper)
 |inRF (l:Nat)
 |endRF (l:Nat)
 |beginRound
 |junk
 deriving Inhabited
inductive AMode where
 |run
 |ret
 |pan (chain:List (AV×Bool))
 deriving Inhabited
structure AFrame where
 fn:Nat
 tm:T AV
 nt:Nat
 todo:List AItem
 defers:List ADef
 mode:AMode
 kind:CallKind
 roundOf:Option Nat
 deriving Inhabited
structure AS where
 fr:AFrame
 cs:List AFrame
 h:Hp
 deriving Inhabited
inductive AIn where
 |enter (f:Nat) (args:List AV)
 |round (l:Nat) (args:List AV)
inductive AOut where
 |val (v:AV) (h:Hp)
 |call (c:AIn)
 |defer (d:ADef)
 |panic (v:AV)
 |recover
def bG (tm:T AV) :Operand→Option AV
 | .tmp t=>tm.at t
 | .const v=>aMD v
 | .global _=>none
 | .func f=>some (.func f [] [])
def fJ (tm:T AV) :List Operand→Option (List AV)
 | [] =>some []
 | x::xs=>match bG tm x,fJ tm xs with
  |some v,some vs=>some (v::vs)
  |_,_=>none
def mE (tm:T AV) :Option Operand→Option (Option AV)
 |none=>some none
 | some x=>match bG tm x with
  |some v=>some (some v)
  |none=>none
def wN (tm:T AV) :List (Nat×Operand) →Option (List (Nat×AV))
 | [] =>some []
 | (i,x) ::xs=>match bG tm x,wN tm xs with
  |some v,some vs=>some ((i,v) ::vs)
  |_,_=>none
def isLit :Operand→Bool
 | .const _=>true
 |_=>false
def dA (P:Program)(f:Nat) :Bool:=
 match P.funcs[f]? with
 |some fn=>fn.body.isSome&& !(fn.name== "runtime.NumGoroutine")
 |none=>false
def mF (P:Program)(t:TypeId)(name:String) :Option Nat:=
 match P.info? t with
 |none=>none
 | some i=>match i.methods.find? (·.name==name)with
  |none=>none
  | some m=>match m.path.toList,m.func,P.underlying t with
   | [],some (f,true),some (.pointer _) =>some f
   | [],some (_,false),some (.pointer _) =>none
   | [],some (f,false),some _=>some f
   |_,_,_=>none
def sK (P:Program)(f:Nat)(args:List AV) :Option AOut:=
 bif dA P f then some (.call (.enter f args))else none
def aBq (P:Program)(recv:AV)(name:String)(args:List AV) :Option AOut:=
 match recv with
 | .iface t v=>match mF P t name with
  |some f=>sK P f (v::args)
  |none=>none
 |_=>none
def pX (P:Program)(f:AV)(args:List AV) :Option AOut:=
 match f with
 | .func f first cap=>sK P f (first++args++cap)
 | .yield l=>some (.call (.round l args))
 | .meth name recv=>aBq P recv name args
 | .via t f pr recv=>match P.underlying t,pr with
  |some (.pointer _),true=>sK P f (recv::args)
  |some (.pointer _),false=>none
  |some _,false=>sK P f (recv::args)
  |_,_=>none
 |_=>none
def aT4 (P:Program)(h:Hp)(t:TypeId)(x:AV) :Option AV:=
 match P.underlying t,x with
 |some .string,.str l _=>some (.int .i64 l)
 |some (.array n _),_=>some (.int .i64 n)
 |some (.slice _),.slice _ _ l _ _ _=>some (.int .i64 l)
 |some (.slice _),.nils=>some (.int .i64 0)
 |some (.map _ _),.nilm=>some (.int .i64 0)
 | some (.map _ _),.map r=>match h.look r with
  |some (.map es _) =>some (.int .i64 es.length)
  |_=>none
 |_,_=>none
def aV7 (P:Program)(t:TypeId)(x:AV) :Option AV:=
 match P.underlying t,x with
 |some (.slice _),.slice _ _ _ c _ true=>some (.int .i64 c)
 |some (.slice _),.nils=>some (.int .i64 0)
 |_,_=>none
def eW (P:Program)(h:Hp)(b:Builtin)(argTypes:Array TypeId)(args:List AV) :Option AOut:=
 match b,args with
 | .len,[x] =>match argTypes[0]? with
  | some t=>match aT4 P h t x with
   |some v=>some (.val v h)
   |none=>none
  |none=>none
 | .cap,[x] =>match argTypes[0]? with
  | some t=>match aV7 P t x with
   |some v=>some (.val v h)
   |none=>none
  |none=>none
 | .append,[s,x] =>match aappend P h argTypes s x with
  |some (v,h') =>some (.val v h')
  |none=>none
 | .max,[.int k a,.int _ b] =>some (.val (.int k (if b>a then b else a)) h)
 | .min,[.int k a,.int _ b] =>some (.val (.int k (if b<a then b else a)) h)
 | .panic,[.iface t v] =>some (.panic (.iface t v))
 | .recover,[] =>some .recover
 |_,_=>none
def pA (P:Program)(h:Hp)(tm:T AV)(c:Call) :Option AOut:=
 match fJ tm c.args.toList with
 |none=>none
 | some args=>match c.callee with
  | .value f=>match bG tm f with
   |some fv=>pX P fv args
   |none=>none
  | .invoke r name=>match bG tm r with
   |some rv=>aBq P rv name args
   |none=>none
  | .builtin b=>eW P h b c.argTypes args
def val (v:Option AV)(h:Hp) :Option AOut:=
 match v with
 |some v=>some (.val v h)
 |none=>none
def aB0 (r:Option (AV×Hp)) :Option AOut:=
 match r with
 |some (v,h) =>some (.val v h)
 |none=>none
def xX (r:Option Hp) :Option AOut:=
 match r with
 |some h=>some (.val .undef h)
 |none=>none
def sF (tm:T AV)(x:Operand)(k:AV→Option AOut) :Option AOut:=
 match bG tm x with
 |some v=>k v
 |none=>none
def xR (tm:T AV)(x y:Operand)(k:AV→AV→Option AOut) :Option AOut:=
 match bG tm x with
 | some v=>match bG tm y with
  |some u=>k v u
  |none=>none
 |none=>none
def aB1 (P:Program)(t:TypeId)(i:Nat) :Option Nat:=
 match P.underlying t with
 | some (.struct fs) =>match fs[i]? with
  | some f=>match aR P f.type with
   |some (_+1) =>some f.offset
   |_=>none
  |none=>none
 |_=>none
def aKd (len n pos:Nat) :Option (Nat×Nat) :=
 bif blt pos len then
  (let c:=mod (div n (pow 256 pos)) 256
  bif blt c 128 then some (c,1)else some (Utf8.decode ⟨⟨aJ len n⟩⟩ pos))
 else none
def sL (P:Program)(asserted:TypeId)(ok:Bool)(a:AV) :Option AV:=
 match P.underlying asserted with
 |none=>none
 |some (.interface _) =>none
 | some _=>match a with
  | .nili=>bif ok then(match zeroOf P asserted with
    |some z=>some (.tup [z,.bool false])
    |none=>none)else none
  | .iface t v=>bif beq t asserted then some (bif ok then .tup [v,.bool true]else v)
    else bif ok then(match zeroOf P asserted with
    |some z=>some (.tup [z,.bool false])
    |none=>none)else none
  |_=>none
def xY (t:Nat) :List Nat→Bool
 | [] =>false
 |x::xs=>beq x t||xY t xs
def aFt (es:List (AV×AV×Nat))(since:Nat)(seen:List Nat) :List (Option (AV×AV×Nat)) :=
 let left:=es.filter fun e=> !(xY e.2.2 seen)
 let old:=left.filter fun e=>blt e.2.2 since
 let new:=left.filter fun e=> !(blt e.2.2 since)
 (if old.isEmpty then [none]else []) ++ (old++new).map some
def aZA (h:Hp)(r m since:Nat)(seen:List Nat)(clock:Nat) :Option (AV×AV×Nat) →AV×Hp
 |some e=> (.tup [.bool true,e.1,e.2.1],h.set r (.miter m since (seen++ [e.2.2]) clock))
 |none=> (.tup [.bool false],h)
def aMF (h:Hp)(r:Nat) :Option (List (AV×Hp)) :=
 match h.look r with
 | some (.miter m since seen last) =>match h.look m with
  | some (.map es clock) =>
   bif !seen.isEmpty&& !es.isEmpty&&es.all (fun e=>ble last e.2.2)then none
   else some ((aFt es since seen).map (aZA h r m since seen clock))
  |_=>none
 |_=>none
def aKe (h:Hp)(r:Nat) :Option AV:=
 match h.look r with
 | some (.miter m _ seen last) =>match seen.getLast?,h.look m with
  | some stamp,some (.map es clock) =>bif beq clock last then(match es.find? (fun e=>beq e.2.2 stamp)with
   |some e=>some (.tup [e.1,e.2.1])
   |none=>none)else none
  |_,_=>none
 |_=>none
def fP (P:Program)(h:Hp)(tm:T AV)(o:Oper) :Option AOut:=
 match o.op with
 | .move x| .assign x=>val (bG tm x) h
 | .pick c a b=>match bG tm c with
  |some (.bool true) =>val (bG tm a) h
  |some (.bool false) =>val (bG tm b) h
  |_=>none
 | .alloc e=>match zeroOf P e with
  |some z=>some (.val (.ptr h.nb 0) (h.newCells z.cells))
  |none=>none
 | .box _ x=>sF tm x fun v=>some (.val (.ptr h.nb 0) (h.newCells v.cells))
 | .build t ps=>match wN tm ps.toList with
  |some l=>val (aKa P t l) h
  |none=>none
 | .buildSlice t len ps=>match wN tm ps.toList with
  | some l=>match nG P t len l with
   |some (cs,s) =>some (.val (.slice h.nb 0 len len s true) (h.newCells cs))
   |none=>none
  |none=>none
 | .load t a=>sF tm a fun
  | .ptr b off=>val (aME P h t b off) h
  |_=>none
 | .store t a x=>xR tm a x fun
  | .ptr b off,v=>xX (aJ7 P h t b off v)
  |_,_=>none
 | .nilCheck x=>sF tm x fun
  | .nilp=>none
  | .nili=>none
  | .nilf=>none
  | .val _=>none
  | .meth name (.iface t v) =>match mF P t name with
   |some _=>some (.val (.meth name (.iface t v)) h)
   |none=>none
  | .meth _ _=>none
  |v=>some (.val v h)
 | .binOp op t x y _=>xR tm x y fun a b=>val (aT1 P op t a b (isLit x) (isLit y)) h
 | .unOp op _ x=>sF tm x fun a=>val (aun op a) h
 | .convert s d x=>sF tm x fun a=>val (sH P h s d a) h
 | .makeInterface t x=>sF tm x fun a=>match P.underlying t with
  |some (.interface _) =>none
  |some _=>some (.val (.iface t a) h)
  |none=>none
 | .makeFunc (.func f) first cap=>match fJ tm first.toList,fJ tm cap.toList with
  |some fs,some cs=>some (.val (.func f fs cs) h)
  |_,_=>none
 | .makeFunc (.method name) first cap=>match fJ tm first.toList with
  |some [r] =>bif cap.isEmpty then some (.val (.meth name r) h)else none
  |_=>none
 | .makeFunc (.via t path f pr) first cap=>match path.toList,fJ tm first.toList with
  | [],some [r] =>bif cap.isEmpty then some (.val (.via t f pr r) h)else none
  |_,_=>none
 | .makeMap _ none=>some (.val (.map h.nb) (h.new (.map [] 0)))
 | .makeSlice t l c=>xR tm l c fun
  | .int _ l,.int _ c=>match P.underlying t with
   | some (.slice e) =>match aR P e,zeroOf P e,P.info? e with
    | some s,some z,some inf=>
     if 0≤l∧l≤c∧c<100000 then
      bif ble s 40&&ble 1 s&&beq z.cells.length s&&ble inf.bytes 1000 then
       some (.val (.slice h.nb 0 l.toNat c.toNat s true) (h.newCells (jR z.cells c.toNat)))
      else none
     else none
    |_,_,_=>none
   |_=>none
  |_,_=>none
 | .slice t x lo hi mx=>sF tm x fun a=>
  match mE tm lo,mE tm hi,mE tm mx with
  | some lo,some hi,some mx=>match eH lo,eH hi,eH mx with
   |some lo,some hi,some mx=>val (oD P t a lo hi mx) h
   |_,_,_=>none
  |_,_,_=>none
 | .fieldAddr t x f=>sF tm x fun
  | .ptr b off=>match aB1 P t f with
   |some o=>some (.val (.ptr b (off+o)) h)
   |none=>none
  |_=>none
 | .field t x f=>sF tm x fun
  | .agg cs=>match P.underlying t with
   | some (.struct fs) =>match fs[f]? with
    | some f=>match P.underlying f.type,aR P f.type with
     |some d,some s=>bif isAggD d then some (.val (.agg ((cs.drop f.offset).take s)) h)else val cs[f.offset]? h
     |_,_=>none
    |none=>none
   |_=>none
  |_=>none
 | .indexAddr t x i=>xR tm x i fun a i=>
  match P.underlying t,a with
  | some (.slice e),.slice b off len _ esz _=>match fD i len,aR P e with
   |some k,some s=>bif beq s esz then some (.val (.ptr b (off+k*esz)) h)else none
   |_,_=>none
  | some (.array len e),.ptr b off=>match fD i len,aR P e with
   |some k,some s=>some (.val (.ptr b (off+k*s)) h)
   |_,_=>none
  |_,_=>none
 | .index t x i=>xR tm x i fun a i=>
  match P.underlying t,a with
  | some .string,.str l n=>match fD i l with
   |some k=>some (.val (.int .u8 (mod (div n (pow 256 k)) 256)) h)
   |none=>none
  | some (.array len e),.agg cs=>match fD i len,P.underlying e,aR P e with
   |some k,some d,some s=>bif isAggD d then some (.val (.agg ((cs.drop (k*s)).take s)) h)else val cs[k*s]? h
   |_,_,_=>none
  |_,_=>none
 | .lookup t x k ok=>xR tm x k fun a k=>val (aBp P h t a k ok) h
 | .mapUpdate t m k x| .insert t m k x=>xR tm m k fun m k=>sF tm x fun v=>xX (mD P h t m k v)
 | .mapEntry t m k=>xR tm m k fun m k=>aB0 (zZ P h t m k)
 | .entryStore _ m s x=>xR tm m s fun m s=>sF tm x fun v=>xX (sJ h m s v)
 | .range t x=>sF tm x fun a=>match P.underlying t,a with
  |some .string,.str l n=>some (.val (.ptr h.nb 0) (h.new (.siter l n 0)))
  | some (.map _ _),.map m=>match h.look m with
   |some (.map _ clock) =>some (.val (.ptr h.nb 0) (h.new (.miter m clock [] clock)))
   |_=>none
  |_,_=>none
 | .next it false=>sF tm it fun
  | .ptr r 0=>match aMF h r with
   |some [(v,h')] =>some (.val v h')
   |_=>none
  |_=>none
 | .next it true=>sF tm it fun
  | .ptr r 0=>match h.look r with
   | some (.siter l n pos) =>
    bif blt pos l then match aKd l n pos with
     |some (c,d) =>some (.val (.tup [.bool true,.int .i64 pos,.int .i32 c]) (h.set r (.siter l n (Nat.add pos d))))
     |none=>none
    else some (.val (.tup [.bool false]) h)
   |_=>none
  |_=>none
 | .entry it=>sF tm it fun
  | .ptr r 0=>val (aKe h r) h
  |_=>none
 | .typeAssert x _ asserted ok=>sF tm x fun a=>val (sL P asserted ok a) h
 | .extract x i=>sF tm x fun
  | .tup vs=>val vs[i]? h
  |_=>none
 | .call c=>pA P h tm c
 | .defer c=>match fJ tm c.args.toList,c.callee with
  | some args,.value f=>match bG tm f with
   |some (.func f first cap) =>bif dA P f then some (.defer (.fn f (first++args++cap)))else none
   |_=>none
  |_,_=>none
 | .panic x=>sF tm x fun
  | .iface t v=>some (.panic (.iface t v))
  |_=>none
 |_=>none
mutual
def AV.keyless :AV→Bool
 | .ptr _ _| .slice .. | .map _| .yield _| .gl .. | .ep .. =>false
 | .func _ fs cs=>AV.keylessL fs&&AV.keylessL cs
 | .meth _ r=>AV.keyless r
 | .via _ _ _ r=>AV.keyless r
 | .iface _ v=>AV.keyless v
 | .agg vs=>AV.keylessL vs
 | .tup vs=>AV.keylessL vs
 |_=>true
def AV.keylessL :List AV→Bool
 | [] =>true
 |a::aS=>AV.keyless a&&AV.keylessL aS
end
def rU (agg:Bool)(e:Nat) :Nat→List AV→List AV
 |0,_=>[]
 |n+1,cs=> (bif agg then .agg (cs.take e)else cs.headD .undef) ::rU agg e n (cs.drop e)
def aHu (P:Program)(t:TypeId)(cs:List AV) :Option AV:=
 match P.underlying t with
 |none=>none
 | some d=>bif isAggD d then
   match aR P t with
   |none=>none
   |some n=>bif ble n cs.length then some (.agg (cs.take n))else none
  else cs[0]?
def setAt (cs:List AV)(o:Nat)(vs:List AV) :List AV:=cs.take o++vs++cs.drop (o+vs.length)
def uP (x:AV)(o:Nat)(vs:List AV) :Option AV:=
 match x with
 | .agg cs=>bif ble (o+vs.length) cs.length then some (.agg (setAt cs o vs))else none
 | .tup _=>none
 | .val u=>match u with
  | .pointer _=>match o,vs with
   |0,[v] =>some v
   |_,_=>none
  |_=>none
 | _=>match o,vs with
  |0,[v] =>some v
  |_,_=>none
def sB (P:Program)(t:TypeId)(e:Nat) :Bool:=
 match P.underlying t with
 | some (.slice el) =>match aR P el with
  |some s=>beq s e
  |none=>false
 |_=>false
def wO (P:Program)(t:TypeId)(x:AV)(lo hi mx:Option Nat) :Option AV:=
 match x with
 | .ilst e xs ex=>bif sB P t e then
   (let l:=lo.getD 0
   let u:=hi.getD xs.length
   match mx,hi with
   |none,_=>if l≤u∧u≤xs.length then some (.ilst e ((xs.drop l).take (u-l)) (ex&&beq u xs.length))else none
   |some m,some _=>if l≤u∧u≤m∧m≤xs.length then some (.ilst e ((xs.drop l).take (u-l)) (beq u m))else none
   |_,_=>none)else none
 | .gl b e off len ex=>bif sB P t e then
   (let l:=lo.getD 0
   let u:=hi.getD len
   match mx,hi with
   |none,_=>if l≤u∧u≤len then some (.gl b e (off+l) (u-l) (ex&&beq u len))else none
   |some m,some _=>if l≤u∧u≤m∧m≤len then some (.gl b e (off+l) (u-l) (beq u m))else none
   |_,_=>none)else none
 |_=>none
def oH (P:Program)(h:Hp)(el:TypeId)(e:Nat)(x:AV) :Option (List AV) :=
 match P.underlying el,x with
 |some _,.nils=>some []
 | some d,.slice b off len _ esz _=>bif beq esz e then match h.loadN b off (len*e)with
  |some vs=>bif cG vs&& (isAggD d||beq e 1)then some (rU (isAggD d) e len vs)else none
  |none=>none else none
 |some _,.ilst e' ys _=>bif beq e' e then some ys else none
 | some _,.gl b e' off len _=>bif beq e' e then match h.look b with
  |some (.lst e2 ys) =>if e2=e∧off+len≤ys.length then some ((ys.drop off).take len)else none
  |_=>none else none
 |_,_=>none
def kF (P:Program)(h:Hp)(argTypes:Array TypeId)(s x:AV) :Option (AV×Hp) :=
 match argTypes[0]?,argTypes[1]? with
 | some st,some xt=>match P.underlying st,P.underlying xt with
  | some (.slice el),some (.slice _) =>
   match aR P el,P.info? el,zeroOf P el with
   | some e,some inf,some z=>
    match oH P h el e x with
    |none=>none
    | some ys=>
     bif beq z.cells.length e&&ble e 40&&ble inf.bytes 1000&&ble 1 inf.bytes&&ble 1 e then
     match s with
     | .nils=>if ys.length≤1000000 then some (.gl h.nb e 0 ys.length false,h.new (.lst e ys))else none
     | .gl b e' off len _=>match h.look b with
      | some (.lst e2 xs) =>if e'=e∧e2=e∧off+len≤xs.length∧len+ys.length≤1000000 then
        some (.gl h.nb e 0 (len+ys.length) false,(h.del b).new (.lst e ((xs.drop off).take len++ys)))else none
      |_=>none
     | .ilst e' [] true=>if e'=e∧ys.length≤1000000 then some (.gl h.nb e 0 ys.length false,h.new (.lst e ys))else none
     | .ilst e' (y::xs) true=>if e'=e∧AV.keylessL ys=true∧ (y::xs).length+ys.length≤1000000 then some (.ilst e (y::xs++ys) false,h)else none
     |_=>none
     else none
   |_,_,_=>none
  |_,_=>none
 |_,_=>none
def jB (P:Program) :List Field→Nat→List AV→List AV→Option Bool
 | [],_,[],[] =>some true
 | f ::fs,k,x::xs,y::ys=>
  match P.underlying f.type with
  | some d=>bif beq f.offset k&& (f.name != "_") &&plainKey d x&&plainKey d y then
    match lD x y,jB P fs (Nat.succ k) xs ys with
    |some a,some b=>some (a&&b)
    |_,_=>none
   else none
  |none=>none
 |_,_,_,_=>none
def vop (P:Program)(h:Hp)(tm:T AV)(o:Oper) :Option AOut:=
 match o.op with
 | .load t a=>sF tm a fun
  | .iptr cs=>val (aHu P t cs) h
  | .ep b e i k=>match h.look b with
   | some (.lst e' xs) =>bif beq e' e then match xs[i]? with
    |some x=>val (aHu P t (x.cells.drop k)) h
    |none=>none else none
   |_=>none
  |_=>none
 | .store t a x=>xR tm a x fun
  | .ep b e i k,v=>match h.look b,aR P t with
   | some (.lst e' xs),some n=>bif beq e' e&&beq v.cells.length n&&ble (k+n) e&&cG v.cells then match xs[i]? with
    | some y=>match uP y k v.cells with
     |some y'=>some (.val .undef (h.set b (.lst e (xs.set i y'))))
     |none=>none
    |none=>none else none
   |_,_=>none
  |_,_=>none
 | .fieldAddr t x f=>sF tm x fun
  | .iptr cs=>match aB1 P t f with
   |some k=>bif blt k cs.length then some (.val (.iptr (cs.drop k)) h)else none
   |none=>none
  | .ep b e i k=>match aB1 P t f with
   |some k'=>some (.val (.ep b e i (k+k')) h)
   |none=>none
  |_=>none
 | .indexAddr t x i=>xR tm x i fun a i=>
  match a with
  | .ilst e xs _=>bif sB P t e then match fD i xs.length with
   | some k=>match xs[k]? with
    |some y=>some (.val (.iptr y.cells) h)
    |none=>none
   |none=>none else none
  | .gl b e off len _=>bif sB P t e then match fD i len with
   |some k=>some (.val (.ep b e (off+k) 0) h)
   |none=>none else none
  |_=>none
 | .slice t x lo hi mx=>sF tm x fun a=>
  match mE tm lo,mE tm hi,mE tm mx with
  | some lo,some hi,some mx=>match eH lo,eH hi,eH mx with
   |some lo,some hi,some mx=>val (wO P t a lo hi mx) h
   |_,_,_=>none
  |_,_,_=>none
 | .binOp op t x y _=>xR tm x y fun
  | .agg xs,.agg ys=>match P.underlying t with
   | some (.struct fs) =>bif !(P.eqGuardType P.depth t) && !(P.stoodInHeld t)then
     match op,jB P fs.toList 0 xs ys with
     | .eql,some b=>some (.val (.bool b) h)
     | .neq,some b=>some (.val (.bool (!b)) h)
     |_,_=>none else none
   |_=>none
  |_,_=>none
 | .call c=>match c.callee,fJ tm c.args.toList with
  | .builtin .len,some [x] =>match c.argTypes[0]?,x with
   | some t,.ilst _ xs _=>match P.underlying t with
    |some (.slice _) =>some (.val (.int .i64 xs.length) h)
    |_=>none
   | some t,.gl _ _ _ len _=>match P.underlying t with
    |some (.slice _) =>some (.val (.int .i64 len) h)
    |_=>none
   |_,_=>none
  | .builtin .append,some [s,x] =>aB0 (kF P h c.argTypes s x)
  |_,_=>none
 |_=>none
def iO (P:Program)(h:Hp)(tm:T AV)(o:Oper) :Option AOut:=
 match fP P h tm o with
 |some r=>some r
 |none=>vop P h tm o
def aFu (tm:T AV)(ops:List Oper)(j:Nat) :Option (Option Bool) :=
 match ops[j]? with
 |none=>some none
 | some o=>match o.dst with
  |none=>some none
  | some d=>match tm.at d with
   |some (.bool b) =>some (some b)
   |some (.val _) =>none
   |some _=>some none
   |none=>none
def bC (tm:T AV)(ops:List Oper)(o:Oper) :Option Bool:=
 match o.guard with
 |none=>some true
 | some (j,want) =>match aFu tm ops j with
  |none=>none
  |some none=>some false
  |some (some b) =>some (b==want)
def fQ (tm:T AV)(nt:Nat)(dst:Option Nat)(v:AV) :Option (T AV) :=
 match dst with
 |none=>some tm
 |some d=>bif blt d nt then some (tm.put d v)else none
inductive Kd where|pure|read|fresh|eff
 deriving Inhabited,DecidableEq
def cC :Op→Kd
 | .move _| .assign _| .pick .. | .build .. | .nilCheck _| .binOp .. | .unOp .. | .makeInterface .. | .makeFunc .. | .slice .. | .fieldAddr .. | .field .. | .indexAddr .. | .index .. | .extract .. | .typeAssert .. =>.pure
 | .load .. | .lookup .. | .convert .. =>.read
 | .alloc _| .buildSlice .. =>.fresh
 | .call c=>match c.callee with
  | .builtin .len=>.read
  | .builtin .cap| .builtin .max| .builtin .min=>.pure
  |_=>.eff
 |_=>.eff
def dT (bs:List Nat) :List Edge→Nat
 | [] =>0
 |e::es=>bif Region.binds .any e then lor (lor (pow 2 e.on) (bs.getD e.on 0)) (dT bs es)else dT bs es
def jD :List Oper→List Nat→List Nat
 | [],bs=>bs
 |o::os,bs=>jD os (bs++ [dT bs o.after.toList])
def dU :List Oper→Nat→List Nat
 | [],_=>[]
 | o::os,i=>match cC o.op with
  | .eff=>i::dU os (Nat.succ i)
  |_=>dU os (Nat.succ i)
def chained (bs:List Nat) :List Nat→Bool
 |e::f::es=>testBit (bs.getD f 0) e&&chained bs (f::es)
 |_=>true
def aFv (b:Nat) :List Nat→Nat→Nat
 | [],_=>0
 |e::es,k=>bif testBit b e then max (Nat.succ k) (aFv b es (Nat.succ k))else aFv b es (Nat.succ k)
def vK (bs:List Nat)(i:Nat) :List Nat→Nat→Nat
 | [],k=>k
 |e::es,k=>bif testBit (bs.getD e 0) i then k else vK bs i es (Nat.succ k)
structure Plan where
 o:Oper
 kd:Kd
 lo:Nat
 hi:Nat
 deriving Inhabited
def nJ (bs es:List Nat) :List Oper→Nat→List Plan
 | [],_=>[]
 |o::os,i=>{o,kd:=cC o.op,lo:=aFv (bs.getD i 0) es 0,hi:=vK bs i es 0}::nJ bs es os (Nat.succ i)
def mG :List Plan→Nat
 | [] =>0
 | p::ps=>match p.kd with
  | .fresh=>Nat.succ (mG ps)
  |_=>mG ps
def kG (ops:List Oper)(o:Oper) :List Nat:=
 o.dst.toList++ ((o.op.operands.toList.filterMap fun| .tmp t=>some t|_=>none) ++
 (match o.guard with
  | some (g,_) =>match ops[g]? with
   |some og=>og.dst.toList
   |none=>[]
  |none=>[]))
def vL (t:Nat) :List Nat→Bool
 | [] =>false
 |x::xs=>beq x t||vL t xs
def aHv (bs:List Nat)(i:Nat)(names:List Nat) :List Oper→Nat→Bool
 | [],_=>true
 | o::os,k=> (match o.dst with
   |some d=> !(vL d names) ||beq k i|| (blt k i&&testBit (bs.getD i 0) k) || (blt i k&&testBit (bs.getD k 0) i)
   |none=>true) &&aHv bs i names os (Nat.succ k)
def wOk (bs:List Nat)(ops:List Oper) :List Oper→Nat→Bool
 | [],_=>true
 |o::os,i=>aHv bs i (kG ops o) ops 0&&wOk bs ops os (Nat.succ i)
def uQ (md:Region.Mode)(n:Nat)(rk:List Nat)(i:Nat) :List Edge→Bool
 | [] =>true
 |e::es=> (!(Region.binds md e) || (blt e.on n&&blt (rk.getD e.on 0) (rk.getD i 0))) &&uQ md n rk i es
def pY (md:Region.Mode)(n:Nat)(rk:List Nat) :List Oper→Nat→Bool
 | [],_=>true
 |o::os,i=>uQ md n rk i o.after.toList&&pY md n rk os (Nat.succ i)
structure RPlan where
 ok:Bool
 fresh:Nat
 ops:List Oper
 plans:List Plan
 deriving Inhabited
def hP (ops:Array Oper) :RPlan:=
 let l:=ops.toList
 let bs:=jD l []
 let es:=dU l 0
 let ps:=nJ bs es l 0
 let n:=ops.size
 let id:=List.range n
 let gc:=Region.linearise .gc ops 0
 {ok:=chained bs es&&wOk bs l l 0&&pY .any n id l 0&&pY .text n id l 0&&pY .gc n (id.map fun i=>gc.idxOf i) l 0,fresh:=mG ps,ops:=l,plans:=ps}
abbrev bB :=Nat→AIn→Hp→Option (AV×Hp)
structure Again where
 o:Oper
 tm:T AV
 lo:Nat
 hi:Nat
 v:AV
 deriving Inhabited
structure RS where
 tm:T AV
 h:Hp
 stages:List Hp      -- the heaps before the effects so far,the last one first
 s:Nat
 pend:List (Nat×Nat×AObj)
 next:Nat
 again:List Again
 deriving Inhabited
def aI (h:Hp)(k:Nat) :List (Nat×Nat×AObj) →Hp
 | [] =>h
 | (a,id,o) ::ps=>bif beq a k then(aI h k ps).set id o else aI h k ps
def lF (P:Program)(tm:T AV)(id:Nat)(o:Oper) :Option (AV×AObj) :=
 match o.op with
 | .alloc e=>match zeroOf P e with
  |some z=>some (.ptr id 0,.cells (putCells .leaf 0 z.cells) z.cells.length [] false)
  |none=>none
 | .buildSlice t len ps=>match wN tm ps.toList with
  | some l=>match nG P t len l with
   |some (cs,s) =>some (.slice id 0 len len s true,.cells (putCells .leaf 0 cs) cs.length [] false)
   |none=>none
  |none=>none
 |_=>none
def aB3 (b hi:Nat) :List (Nat×Nat×AObj) →Option (Nat×AObj)
 | [] =>none
 | (a,id,o) ::ps=>bif beq id b&&ble hi a then some (a,o)else aB3 b hi ps
def sM (P:Program)(tm:T AV)(pend:List (Nat×Nat×AObj))(hi:Nat)(o:Oper) :Option (List AV) :=
 match o.op with
 | .convert s d x=>match bG tm x with
  | some (.slice b off len _ _ _) =>match aB3 b hi pend with
   | some (_,.cells t _ _ _) =>match P.underlying s,P.underlying d,getCells t off len with
    | some (.slice e),some .string,some vs=>match P.underlying e with
     |some (.int .u8) =>some vs
     |_=>none
    |_,_,_=>none
   |_=>none
  |_=>none
 |_=>none
def kS (P:Program)(call:bB)(nt:Nat)(ops:List Oper)(p:Plan)(r:RS) :Option RS:=
 match bC r.tm ops p.o with
 |none=>none
 | some false=>
  match fQ r.tm nt p.o.dst .undef with
  |none=>none
  | some tm=>match p.kd with
   | .eff=>let h:=aI r.h r.s r.pend;some {r with tm,h,stages:=r.h::r.stages,s:=Nat.succ r.s}
   | .fresh=>some {r with tm,next:=Nat.succ r.next}
   |_=>some {r with tm}
 | some true=>
  match p.kd with
  | .pure=>match iO P r.h r.tm p.o with
   | some (.val v _) =>match fQ r.tm nt p.o.dst v with
    |some tm=>some {r with tm}
    |none=>none
   |_=>none
  | .read=>match iO P r.h r.tm p.o with
   | some (.val v _) =>match fQ r.tm nt p.o.dst v with
    |some tm=>some {r with tm,again:=bif beq p.lo p.hi then r.again else⟨p.o,r.tm,p.lo,p.hi,v⟩ ::r.again}
    |none=>none
   | _ =>match sM P r.tm r.pend p.hi p.o with
    | some vs=>match sG vs with
     | some v=>match fQ r.tm nt p.o.dst v with
      |some tm=>some {r with tm}
      |none=>none
     |none=>none
    |none=>none
  | .fresh=>match lF P r.tm r.next p.o with
   | some (v,o) =>match fQ r.tm nt p.o.dst v with
    |some tm=>some {r with tm,next:=Nat.succ r.next,pend:= (p.hi,r.next,o) ::r.pend}
    |none=>none
   |none=>none
  | .eff=>
   let h:=aI r.h r.s r.pend
   match iO P h r.tm p.o with
   | some (.val v h') =>match fQ r.tm nt p.o.dst v with
    |some tm=>some {r with tm,h:=h',stages:=r.h::r.stages,s:=Nat.succ r.s}
    |none=>none
   | some (.call c) =>match call r.s c h with
    | some (v,h') =>match fQ r.tm nt p.o.dst v with
     |some tm=>some {r with tm,h:=h',stages:=r.h::r.stages,s:=Nat.succ r.s}
     |none=>none
    |none=>none
   |_=>none
def lG (P:Program)(call:bB)(nt:Nat)(ops:List Oper) :List Plan→RS→Option RS
 | [],r=>some r
 | p::ps,r=>match kS P call nt ops p r with
  |some r'=>lG P call nt ops ps r'
  |none=>none
def aBr (P:Program)(a:Again)(h:Hp) :Bool:=
 match iO P h a.tm a.o with
 |some (.val v _) =>AV.same v a.v
 |_=>false
def kT (P:Program)(a:Again) :List Hp→Nat→Bool
 | [],_=>true
 |h::hs,k=> (bif ble a.lo k&&ble k a.hi then aBr P a h else true) &&kT P a hs (k-1)
def pC (P:Program)(hs:List Hp)(k:Nat) :List Again→Bool
 | [] =>true
 |a::aS=>kT P a hs k&&pC P hs k aS
def aBs (P:Program)(call:bB)(nt:Nat)(ops:Array Oper)(tm:T AV)(h:Hp) :Option (T AV×Hp) :=
 let pl:=hP ops
 bif pl.ok then
  match lG P call nt pl.ops pl.plans {tm,h:={h with nb:=h.nb+pl.fresh},stages:=[],s:=0,pend:=[],next:=h.nb,again:=[]} with
  |some r=>bif pC P (r.h::r.stages) r.s r.again then some (r.tm,aI r.h r.s r.pend)else none
  |none=>none
 else none
def dQ :T AV→Nat→List AV→T AV:=putCells
def cM (P:Program)(f:Nat)(args:List AV)(kind:CallKind) :Option AFrame:=
 match P.funcs[f]? with
 | some fn=>match fn.body with
  |some c=>some {fn:=f,tm:=dQ .leaf 0 args,nt:=max fn.ntmps args.length,todo:=[.code c],defers:=[],mode:=.run,kind,roundOf:=none}
  |none=>none
 |none=>none
def jT :T AV→Nat→List Nat→List AV→Option (T AV)
 |tm,_,[],[] =>some tm
 |tm,nt,p::ps,a::aS=>bif blt p nt then jT (tm.put p a) nt ps aS else none
 |_,_,_,_=>none
def wP (h:Hp)(l:Nat)(args:List AV) :Option AFrame:=
 match h.look l with
 | some (.loop _ _ fn tm nt params assign body _) =>
  match jT tm nt params args with
  |some tm'=>some {fn,tm:=tm',nt,todo:=[.code assign,.beginRound,.code body],defers:=[],mode:=.run,kind:=.normal,roundOf:=some l}
  |none=>none
 |_=>none
def cX (P:Program)(h:Hp) :AIn→Option AFrame
 | .enter f args=>cM P f args .normal
 | .round l args=>wP h l args
def kH (id:Nat) :List AItem→Option (List AItem)
 | .inBlock id'::k=>bif beq id' id then some k else kH id k
 |_::k=>kH id k
 | [] =>none
def kJ (l:Nat) :List AItem→Option (List AItem)
 | .inScope body::k=>match findLabel body l with
  |some rest=>some (.code rest:: .inScope body::k)
  |none=>kJ l k
 |_::k=>kJ l k
 | [] =>none
def AFrame.finish (fr:AFrame)(v:AV) :Option AFrame:=
 match fr.todo with
 | .ops all i (o::rest) ::k=>match fQ fr.tm fr.nt o.dst v with
  |some tm=>some {fr with tm,todo:=.ops all (Nat.succ i) rest::k}
  |none=>none
 | .inRF l::k=>some {fr with todo:=.endRF l::k}
 |_=>none
def AFrame.raise (fr:AFrame)(vs:List (AV×Bool)) :AFrame:=
 match fr.mode with
 | .pan chain=>{fr with mode:=.pan (vs++chain)}
 |_=>{fr with mode:=.pan vs}
def aFw (m:AMode) :AMode:=
 match m with
 | .pan ((_,true) ::_) =>.ret
 |m=>m
def aMG (P:Program)(h:Hp)(tm:T AV) :ResultVar→Option AV
 | .tmp t=>tm.at t
 | .cell a t=>match tm.at a with
  |some (.ptr b off) =>aME P h t b off
  |_=>none
def jE (P:Program)(h:Hp)(tm:T AV) :List ResultVar→Option (List AV)
 | [] =>some []
 | r::rs=>match aMG P h tm r,jE P h tm rs with
  |some v,some vs=>some (v::vs)
  |_,_=>none
def aAb :List AV→AV
 | [v] =>v
 |vs=>.tup vs
def xZ (fr:AFrame)(cs:List AFrame)(v:AV)(h:Hp) :Option AS:=
 match cs with
 | [] =>none
 | c::cs=>match fr.kind with
  | .normal=>match c.finish v with
   |some c'=>some ⟨c',cs,h⟩
   |none=>none
  | .deferred=>some ⟨{c with mode:=aFw c.mode},cs,h⟩
  |_=>none
def iQ (h:Hp)(l:Nat)(jump:Option Code) :Option Hp:=
 match h.look l with
 |some (.loop _ _ fn tm nt ps aS bd df) =>some (h.set l (.loop (match jump with|none=>.ready|some _=>.done) jump fn tm nt ps aS bd df))
 |_=>none
def oI (fr:AFrame)(cs:List AFrame)(h:Hp)(jump:Option Code) :Option AS:=
 match fr.roundOf with
 | none=>match jump with
  |none=>some ⟨{fr with mode:=.ret},cs,h⟩
  |some .ret=>some ⟨{fr with mode:=.ret},cs,h⟩
  |_=>none
 | some l=>match iQ h l jump with
  |some h'=>xZ fr cs (.bool jump.isNone) h'
  |none=>none
def toC (fr:AFrame)(todo:List AItem)(cs:List AFrame)(h:Hp) :Option AS:=some ⟨{fr with todo},cs,h⟩
def oJ (P:Program)(fr:AFrame)(cs:List AFrame)(h:Hp)(c:AIn) :Option AS:=
 match cX P h c with
 |some g=>some ⟨g,fr::cs,h⟩
 |none=>none
def jF (P:Program)(call:bB)(s:AS) :Option AS:=
 let fr:=s.fr
 let cs:=s.cs
 let h:=s.h
 match fr.mode with
 | .run =>match fr.todo with
  | [] =>oI fr cs h none
  | .code .ret::_=>oI fr cs h (some .ret)
  | .code .skip::k=>toC fr k cs h
  | .code (.label _) ::k=>toC fr k cs h
  | .inBlock _::k=>toC fr k cs h
  | .inScope _::k=>toC fr k cs h
  | .code (.seq a b) ::k=>toC fr (.code a:: .code b::k) cs h
  | .code (.cond c x y) ::k=>match bG fr.tm c with
   |some (.bool true) =>toC fr (.code x::k) cs h
   |some (.bool false) =>toC fr (.code y::k) cs h
   |_=>none
  | .code (.block id c) ::k=>toC fr (.code c:: .inBlock id::k) cs h
  | .code (.loop c) ::k=>toC fr (.code c:: .inLoop c::k) cs h
  | .inLoop c::k=>toC fr (.code c:: .inLoop c::k) cs h
  | .code (.scope c) ::k=>toC fr (.code c:: .inScope c::k) cs h
  | .code (.exit id) ::k=>match kH id k with
   |some k'=>toC fr k' cs h
   |none=>oI fr cs h (some (.exit id))
  | .code (.goto l) ::k=>match kJ l k with
   |some k'=>toC fr k' cs h
   |none=>oI fr cs h (some (.goto l))
  | .code (.region _ ops false) ::k=>toC fr (.ops ops 0 ops.toList::k) cs h
  | .code (.region _ ops true) ::k=>match aBs P call fr.nt ops fr.tm h with
   |some (tm,h') =>some ⟨{fr with tm,todo:=k},cs,h'⟩
   |none=>none
  | .ops _ _ [] ::k=>toC fr k cs h
  | .ops all i (o::rest) ::k=>
   match bC fr.tm all.toList o with
   |none=>none
   | some false=>match fQ fr.tm fr.nt o.dst .undef with
    |some tm=>some ⟨{fr with tm,todo:=.ops all (Nat.succ i) rest::k},cs,h⟩
    |none=>none
   | some true=>match iO P h fr.tm o with
    | some (.val v h') =>match fQ fr.tm fr.nt o.dst v with
     |some tm=>some ⟨{fr with tm,todo:=.ops all (Nat.succ i) rest::k},cs,h'⟩
     |none=>none
    |some (.call c) =>oJ P fr cs h c
    | some (.defer d) =>match fr.roundOf,fQ fr.tm fr.nt o.dst .undef with
     |none,some tm=>some ⟨{fr with tm,todo:=.ops all (Nat.succ i) rest::k,defers:=d::fr.defers},cs,h⟩
     |_,_=>none
    |some (.panic v) =>some ⟨fr.raise [(v,false)],cs,h⟩
    | some .recover=>match fr.roundOf,fr.kind,cs with
     | none,.deferred,c::cs'=>match c.mode with
      | .pan ((v,false) ::older) =>match fQ fr.tm fr.nt o.dst v with
       |some tm=>some ⟨{fr with tm,todo:=.ops all (Nat.succ i) rest::k},{c with mode:=.pan ((v,true) ::older)}::cs',h⟩
       |none=>none
      | _=>match fQ fr.tm fr.nt o.dst .nili with
       |some tm=>some ⟨{fr with tm,todo:=.ops all (Nat.succ i) rest::k},cs,h⟩
       |none=>none
     |_,_,_=>none
    |none=>none
  | .code (.rangeFunc f ps assign body) ::k=>
   match bG fr.tm f with
   |none=>none
   | some fv=>
    match fr.roundOf with
    | none=>
     let h1:=h.new (.defd false)
     let l:=h1.nb
     let h2:=h1.new (.loop .ready none fr.fn fr.tm fr.nt ps.toList assign body h.nb)
     match pX P fv [.yield l]with
     |some (.call c) =>oJ P {fr with todo:=.inRF l::k,defers:=.col h.nb::fr.defers} cs h2 c
     |_=>none
    | some o=>match h.look o with
     | some (.loop _ _ _ _ _ _ _ _ df) =>
      let l:=h.nb
      let h2:=h.new (.loop .ready none fr.fn fr.tm fr.nt ps.toList assign body df)
      match pX P fv [.yield l]with
      |some (.call c) =>oJ P {fr with todo:=.inRF l::k} cs h2 c
      |_=>none
     |_=>none
  | .inRF _::_=>none
  | .beginRound::k=>match fr.roundOf with
   |none=>none
   | some l=>match h.look l with
    |some (.loop .ready pe fn tm nt ps aS bd df) =>some ⟨{fr with todo:=k},cs,h.set l (.loop .busy pe fn tm nt ps aS bd df)⟩
    |_=>none
  | .endRF l::k=>match h.look l with
   |some (.loop .busy _ _ _ _ _ _ _ _) =>none
   | some (.loop _ pe fn tm nt ps aS bd df) =>
    some ⟨{fr with todo:= (match pe with|some c=>[.code c] |none=>[]) ++k},cs,h.set l (.loop .exhausted pe fn tm nt ps aS bd df)⟩
   |_=>none
  | .code (.refuse _) ::_=>none
  | .junk::_=>none
 | .ret=>match fr.defers with
  | .col b::ds=>match h.look b with
   |some (.defd false) =>some ⟨{fr with defers:=ds},cs,h.set b (.defd true)⟩
   |_=>none
  | .fn f args::ds=>bif dA P f then(match cM P f args .deferred with
   |some g=>some ⟨g,{fr with defers:=ds}::cs,h⟩
   |none=>none)else none
  | [] =>match P.funcs[fr.fn]? with
   |none=>none
   | some fn=>match jE P h fr.tm fn.results.toList with
    |some vs=>xZ fr cs (aAb vs) h
    |none=>none
 | .pan chain=>match fr.defers with
  | .col b::ds=>match h.look b with
   |some (.defd false) =>some ⟨{fr with defers:=ds},cs,h.set b (.defd true)⟩
   |_=>none
  | .fn f args::ds=>bif dA P f then(match cM P f args .deferred with
   |some g=>some ⟨g,{fr with defers:=ds}::cs,h⟩
   |none=>none)else none
  | [] =>match P.funcs[fr.fn]?,cs with
   |some _,c::cs=>some ⟨c.raise chain,cs,h⟩
   |_,_=>none
def vS (P:Program)(s:AS) :Option (AV×Hp) :=
 match s.cs,s.fr.kind with
 | [],.normal=>match s.fr.mode,s.fr.roundOf,s.fr.todo with
  | .ret,none,_=>match s.fr.defers,P.funcs[s.fr.fn]? with
   | [],some fn=>match jE P s.h s.fr.tm fn.results.toList with
    |some vs=>some (aAb vs,s.h)
    |none=>none
   |_,_=>none
  | .run,some l,[] =>match iQ s.h l none with
   |some h'=>some (.bool true,h')
   |none=>none
  | .run,some l,.code .ret::_=>match iQ s.h l (some .ret)with
   |some h'=>some (.bool false,h')
   |none=>none
  | .run,some l,.code (.exit id) ::k=>match kH id k with
   |some _=>none
   | none=>match iQ s.h l (some (.exit id))with
    |some h'=>some (.bool false,h')
    |none=>none
  | .run,some l,.code (.goto t) ::k=>match kJ t k with
   |some _=>none
   | none=>match iQ s.h l (some (.goto t))with
    |some h'=>some (.bool false,h')
    |none=>none
  |_,_,_=>none
 |_,_=>none
def aFx (P:Program)(call:bB) :Nat→AS→Option (AV×Hp)
 |0,_=>none
 | n+1,s=>match vS P s with
  |some r=>some r
  | none=>match jF P call s with
   |some s'=>aFx P call n s'
   |none=>none
def sN (P:Program)(n:Nat) :Nat→bB
 |0=>fun _ _ _=>none
 | d+1=>fun _ c h=>match cX P h c with
  |some g=>aFx P (sN P n d) n ⟨g,[],h⟩
  |none=>none
def aPH (P:Program)(call:bB)(s:AS) :Option AS:=
 match s with
 | ⟨⟨fn,tm,nt,todo,defers,mode,kind,roundOf⟩,cs,h⟩ =>
 match mode with
 | .run =>match todo with
  | [] =>oI ⟨fn,tm,nt,todo,defers,mode,kind,roundOf⟩ cs h none
  | .code .ret::_=>oI ⟨fn,tm,nt,todo,defers,mode,kind,roundOf⟩ cs h (some .ret)
  | .code .skip::k=>some ⟨⟨fn,tm,nt,k,defers,mode,kind,roundOf⟩,cs,h⟩
  | .code (.label _) ::k=>some ⟨⟨fn,tm,nt,k,defers,mode,kind,roundOf⟩,cs,h⟩
  | .inBlock _::k=>some ⟨⟨fn,tm,nt,k,defers,mode,kind,roundOf⟩,cs,h⟩
  | .inScope _::k=>some ⟨⟨fn,tm,nt,k,defers,mode,kind,roundOf⟩,cs,h⟩
  | .code (.seq a b) ::k=>some ⟨⟨fn,tm,nt,(.code a:: .code b::k),defers,mode,kind,roundOf⟩,cs,h⟩
  | .code (.cond c x y) ::k=>match bG tm c with
   |some (.bool true) =>some ⟨⟨fn,tm,nt,(.code x::k),defers,mode,kind,roundOf⟩,cs,h⟩
   |some (.bool false) =>some ⟨⟨fn,tm,nt,(.code y::k),defers,mode,kind,roundOf⟩,cs,h⟩
   |_=>none
  | .code (.block id c) ::k=>some ⟨⟨fn,tm,nt,(.code c:: .inBlock id::k),defers,mode,kind,roundOf⟩,cs,h⟩
  | .code (.loop c) ::k=>some ⟨⟨fn,tm,nt,(.code c:: .inLoop c::k),defers,mode,kind,roundOf⟩,cs,h⟩
  | .inLoop c::k=>some ⟨⟨fn,tm,nt,(.code c:: .inLoop c::k),defers,mode,kind,roundOf⟩,cs,h⟩
  | .code (.scope c) ::k=>some ⟨⟨fn,tm,nt,(.code c:: .inScope c::k),defers,mode,kind,roundOf⟩,cs,h⟩
  | .code (.exit id) ::k=>match kH id k with
   |some k'=>some ⟨⟨fn,tm,nt,k',defers,mode,kind,roundOf⟩,cs,h⟩
   |none=>oI ⟨fn,tm,nt,todo,defers,mode,kind,roundOf⟩ cs h (some (.exit id))
  | .code (.goto l) ::k=>match kJ l k with
   |some k'=>some ⟨⟨fn,tm,nt,k',defers,mode,kind,roundOf⟩,cs,h⟩
   |none=>oI ⟨fn,tm,nt,todo,defers,mode,kind,roundOf⟩ cs h (some (.goto l))
  | .code (.region _ ops false) ::k=>some ⟨⟨fn,tm,nt,(.ops ops 0 ops.toList::k),defers,mode,kind,roundOf⟩,cs,h⟩
  | .code (.region _ ops true) ::k=>match aBs P call nt ops tm h with
   |some (tm,h') =>some ⟨⟨fn,tm,nt,(k),defers,mode,kind,roundOf⟩,cs,h'⟩
   |none=>none
  | .ops _ _ [] ::k=>some ⟨⟨fn,tm,nt,k,defers,mode,kind,roundOf⟩,cs,h⟩
  | .ops all i (o::rest) ::k=>
   match bC tm all.toList o with
   |none=>none
   | some false=>match fQ tm nt o.dst .undef with
    |some tm=>some ⟨⟨fn,tm,nt,(.ops all (Nat.succ i) rest::k),defers,mode,kind,roundOf⟩,cs,h⟩
    |none=>none
   | some true=>match iO P h tm o with
    | some (.val v h') =>match fQ tm nt o.dst v with
     |some tm=>some ⟨⟨fn,tm,nt,(.ops all (Nat.succ i) rest::k),defers,mode,kind,roundOf⟩,cs,h'⟩
     |none=>none
    |some (.call c) =>oJ P ⟨fn,tm,nt,todo,defers,mode,kind,roundOf⟩ cs h c
    | some (.defer d) =>match roundOf,fQ tm nt o.dst .undef with
     |none,some tm=>some ⟨⟨fn,tm,nt,(.ops all (Nat.succ i) rest::k),(d::defers),mode,kind,roundOf⟩,cs,h⟩
     |_,_=>none
    |some (.panic v) =>some ⟨(⟨fn,tm,nt,todo,defers,mode,kind,roundOf⟩ :AFrame).raise [(v,false)],cs,h⟩
    | some .recover=>match roundOf,kind,cs with
     | none,.deferred,c::cs'=>match c.mode with
      | .pan ((v,false) ::older) =>match fQ tm nt o.dst v with
       |some tm=>some ⟨⟨fn,tm,nt,(.ops all (Nat.succ i) rest::k),defers,mode,kind,roundOf⟩,{c with mode:=.pan ((v,true) ::older)}::cs',h⟩
       |none=>none
      | _=>match fQ tm nt o.dst .nili with
       |some tm=>some ⟨⟨fn,tm,nt,(.ops all (Nat.succ i) rest::k),defers,mode,kind,roundOf⟩,cs,h⟩
       |none=>none
     |_,_,_=>none
    |none=>none
  | .code (.rangeFunc f ps assign body) ::k=>
   match bG tm f with
   |none=>none
   | some fv=>
    match roundOf with
    | none=>
     let h1:=h.new (.defd false)
     let l:=h1.nb
     let h2:=h1.new (.loop .ready none fn tm nt ps.toList assign body h.nb)
     match pX P fv [.yield l]with
     |some (.call c) =>oJ P ⟨fn,tm,nt,(.inRF l::k),(.col h.nb::defers),mode,kind,roundOf⟩ cs h2 c
     |_=>none
    | some o=>match h.look o with
     | some (.loop _ _ _ _ _ _ _ _ df) =>
      let l:=h.nb
      let h2:=h.new (.loop .ready none fn tm nt ps.toList assign body df)
      match pX P fv [.yield l]with
      |some (.call c) =>oJ P ⟨fn,tm,nt,(.inRF l::k),defers,mode,kind,roundOf⟩ cs h2 c
      |_=>none
     |_=>none
  | .inRF _::_=>none
  | .beginRound::k=>match roundOf with
   |none=>none
   | some l=>match h.look l with
    |some (.loop .ready pe fn' tm' nt' ps aS bd df) =>some ⟨⟨fn,tm,nt,(k),defers,mode,kind,roundOf⟩,cs,h.set l (.loop .busy pe fn' tm' nt' ps aS bd df)⟩
    |_=>none
  | .endRF l::k=>match h.look l with
   |some (.loop .busy _ _ _ _ _ _ _ _) =>none
   | some (.loop _ pe fn' tm' nt' ps aS bd df) =>
    some ⟨⟨fn,tm,nt,((match pe with|some c=>[.code c] |none=>[]) ++k),defers,mode,kind,roundOf⟩,cs,h.set l (.loop .exhausted pe fn' tm' nt' ps aS bd df)⟩
   |_=>none
  | .code (.refuse _) ::_=>none
  | .junk::_=>none
 | .ret=>match defers with
  | .col b::ds=>match h.look b with
   |some (.defd false) =>some ⟨⟨fn,tm,nt,todo,(ds),mode,kind,roundOf⟩,cs,h.set b (.defd true)⟩
   |_=>none
  | .fn f args::ds=>bif dA P f then(match cM P f args .deferred with
   |some g=>some ⟨g,⟨fn,tm,nt,todo,(ds),mode,kind,roundOf⟩ ::cs,h⟩
   |none=>none)else none
  | [] =>match P.funcs[fn]? with
   |none=>none
   | some fd=>match jE P h tm fd.results.toList with
    |some vs=>xZ ⟨fn,tm,nt,todo,defers,mode,kind,roundOf⟩ cs (aAb vs) h
    |none=>none
 | .pan chain=>match defers with
  | .col b::ds=>match h.look b with
   |some (.defd false) =>some ⟨⟨fn,tm,nt,todo,(ds),mode,kind,roundOf⟩,cs,h.set b (.defd true)⟩
   |_=>none
  | .fn f args::ds=>bif dA P f then(match cM P f args .deferred with
   |some g=>some ⟨g,⟨fn,tm,nt,todo,(ds),mode,kind,roundOf⟩ ::cs,h⟩
   |none=>none)else none
  | [] =>match P.funcs[fn]?,cs with
   |some _,c::cs=>some ⟨c.raise chain,cs,h⟩
   |_,_=>none
theorem aPI (P:Program)(call:bB)(s:AS) :aPH P call s=jF P call s:=by
 obtain⟨⟨fn,f,i,e,b,c,d,a⟩,g,h⟩ :=s;rfl
def Hp.only (h:Hp) :List Nat→T AObj→T AObj
 | [],t=>t
 | b::bs,t=>match h.look b with
  |some o=>Hp.only h bs (t.put b o)
  |none=>Hp.only h bs t
def AS.only (s:AS)(bs:List Nat) :AS:={s with h:={s.h with t:=Hp.only s.h bs .leaf}}
def kK (P:Program)(call:bB) :Nat→AS→Option AS
 |0,s=>some s
 | n+1,s=>match aPH P call s with
  |some s'=>kK P call n s'
  |none=>none
theorem aZ (a b:Nat) :beq a b=decide (a=b) :=by
 by_cases h:a=b
 ·subst h;simp
 · simp only [h,decide_false];cases hb:beq a b
   ·rfl
   ·exact absurd (eP hb) h
theorem gG (a b:Nat) :ble a b=decide (a≤b) :=by
 cases hb:ble a b
 · have:¬a≤b:=fun h=>by rw [Nat.ble_eq_true_of_le h]at hb;cases hb
   simp [this]
 ·simp [Nat.le_of_ble_eq_true hb]
theorem cF (a b:Nat) :blt a b=decide (a<b) :=gG _ _
theorem T.get_node {a:Type}(l r:T a)(v:Option a)(k:Nat) :
  (T.node l v r).get k=if k=1 then v else if k % 2=0 then l.get (k / 2)else r.get (k / 2) :=by
 show(bif beq k 1 then v else bif beq (k % 2) 0 then l.get (k / 2)else r.get (k / 2)) =_;simp only [aZ,cond_eq_ite,decide_eq_true_eq]
theorem T.get_leaf {a:Type}(k:Nat) : (T.leaf:T a).get k=none:=rfl
theorem T.setF_leaf {a:Type}(x:Option a)(f k:Nat) :
  T.setF x (f+1) k .leaf=if k=1 then .node .leaf x .leaf else if k % 2=0 then .node (T.setF x f (k / 2) .leaf) none .leaf else .node .leaf none (T.setF x f (k / 2) .leaf) :=by
 show(bif beq k 1 then T.node .leaf x .leaf else bif beq (k % 2) 0 then T.node (T.setF x f (k / 2) .leaf) none .leaf else T.node .leaf none (T.setF x f (k / 2) .leaf)) =_;simp only [aZ,cond_eq_ite,decide_eq_true_eq]
theorem T.setF_node {a:Type}(x:Option a)(f k:Nat)(l r:T a)(v:Option a) :
  T.setF x (f+1) k (.node l v r) =if k=1 then .node l x r else if k % 2=0 then .node (T.setF x f (k / 2) l) v r else .node l v (T.setF x f (k / 2) r) :=by
 show(bif beq k 1 then T.node l x r else bif beq (k % 2) 0 then T.node (T.setF x f (k / 2) l) v r else T.node l v (T.setF x f (k / 2) r)) =_;simp only [aZ,cond_eq_ite,decide_eq_true_eq]
theorem T.get_setF {c:Type}(x:Option c) :∀ (f k:Nat) (t:T c) (j:Nat),1≤k→k<2 ^ f→1≤j →
  (T.setF x f k t).get j=if j=k then x else t.get j:=by
 intro f
 induction f with
 |zero=>intro k t j i d _;simp at d;omega
 | succ f g =>
  intro k t j i d m;have b:k / 2<2 ^ f:=by rw [pow_succ]at d;omega
  have key :∀ (l r:T c) (v:Option c),(if k=1 then T.node l x r else if k % 2=0 then .node (T.setF x f (k / 2) l) v r else .node l v (T.setF x f (k / 2) r)).get j=if j=k then x else(T.node l v r).get j:=by
   intro l r v;by_cases hk:k=1
   · simp only [hk,if_true,T.get_node];by_cases h:j=1<;>simp [h]
   · simp only [hk,if_false];by_cases hm:k % 2=0
     · simp only [hm,if_true,T.get_node];by_cases h:j=1
       · have:¬j=k:=by omega
         simp [h,show ¬ (1=k)by omega]
       · simp only [h,if_false];by_cases a:j % 2=0
         · simp only [a,if_true];rw [g _ _ _ (by omega) b (by omega)];by_cases e:j=k
           ·simp [e]
           ·simp [e,show ¬ (j / 2=k / 2)by omega]
         ·simp [a,show ¬ (j=k)by omega]
     · simp only [hm,if_false,T.get_node];by_cases h:j=1
       ·simp [h,show ¬ (1=k)by omega]
       · simp only [h,if_false];by_cases a:j % 2=0
         ·simp [a,show ¬ (j=k)by omega]
         · simp only [a,if_false];rw [g _ _ _ (by omega) b (by omega)];by_cases e:j=k
           ·simp [e]
           ·simp [e,show ¬ (j / 2=k / 2)by omega]
  cases t with
  | leaf=>
   rw [T.setF_leaf,key .leaf .leaf none];simp [T.get_node,T.get_leaf]
  |node l v r=>rw [T.setF_node];exact key l r v
theorem wQ (k:Nat) :k<2 ^ (k+1) :=lt_of_lt_of_le Nat.lt_two_pow_self (Nat.pow_le_pow_right (by omega) (by omega))
theorem T.at_put {a:Type}(t:T a)(k:Nat)(x:a)(j:Nat) : (t.put k x).at j=if j=k then some x else t.at j:=by
 unfold T.put T.at;rw [T.get_setF _ _ _ _ _ (by simp) (by have:=wQ (k+1);simpa using this) (by simp)];simp
theorem T.get_mk {d:Type}(l r:T d)(v:Option d)(k:Nat) : (T.mk l v r).get k= (T.node l v r).get k:=by
 cases l with
 |node a b c=>rfl
 | leaf=>cases v with
  |some x=>rfl
  | none=>cases r with
   |node a b c=>rfl
   | leaf=>
    rw [T.get_node];show none=_;split
    ·rfl
    ·split<;>rfl
theorem T.delF_node {a:Type}(f k:Nat)(l r:T a)(v:Option a) :
  T.delF (f+1) k (.node l v r) =if k=1 then T.mk l none r else if k % 2=0 then T.mk (T.delF f (k / 2) l) v r else T.mk l v (T.delF f (k / 2) r) :=by
 show(bif beq k 1 then T.mk l none r else bif beq (k % 2) 0 then T.mk (T.delF f (k / 2) l) v r else T.mk l v (T.delF f (k / 2) r)) =_;simp only [aZ,cond_eq_ite,decide_eq_true_eq]
theorem T.get_delF {g:Type}:∀ (f k:Nat) (t:T g) (j:Nat),1≤k→k<2 ^ f→1≤j→ (T.delF f k t).get j=if j=k then none else t.get j:=by
 intro f
 induction f with
 |zero=>intro k t j i c _;simp at c;omega
 | succ f d =>
  intro k t j i c m;have a:k / 2<2 ^ f:=by rw [pow_succ]at c;omega
  cases t with
  | leaf=>
   show(T.leaf:T g).get j=_;rw [T.get_leaf];simp
  | node l v r=>
   rw [T.delF_node];by_cases hk:k=1
   · simp only [hk,if_true,T.get_mk,T.get_node];by_cases h:j=1<;>simp [h]
   · simp only [hk,if_false];by_cases hm:k % 2=0
     · simp only [hm,if_true,T.get_mk,T.get_node];by_cases h:j=1
       ·simp [h,show ¬ (1=k)by omega]
       · simp only [h,if_false];by_cases b:j % 2=0
         · simp only [b,if_true];rw [d _ _ _ (by omega) a (by omega)];by_cases e:j=k
           ·simp [e]
           ·simp [e,show ¬ (j / 2=k / 2)by omega]
         ·simp [b,show ¬ (j=k)by omega]
     · simp only [hm,if_false,T.get_mk,T.get_node];by_cases h:j=1
       ·simp [h,show ¬ (1=k)by omega]
       · simp only [h,if_false];by_cases b:j % 2=0
         ·simp [b,show ¬ (j=k)by omega]
         · simp only [b,if_false];rw [d _ _ _ (by omega) a (by omega)];by_cases e:j=k
           ·simp [e]
           ·simp [e,show ¬ (j / 2=k / 2)by omega]
theorem T.at_del {a:Type}(t:T a)(k:Nat)(j:Nat) : (t.del k).at j=if j=k then none else t.at j:=by
 unfold T.del T.at;rw [T.get_delF _ _ _ _ (by simp) (by have:=wQ (k+1);simpa using this) (by simp)];simp
theorem T.at_leaf {a:Type}(j:Nat) : (T.leaf:T a).at j=none:=rfl
theorem sO (a:List AV) :∀ (t:T AV) (i j:Nat),(putCells t i a).at j=if i≤j∧j<i+a.length then a[j-i]? else t.at j:=by
 induction a with
 |nil=>intro t i j;simp [putCells,show ¬ (i≤j∧j<i)by omega]
 | cons v a d=>
  intro t i j;rw [putCells,d,T.at_put];by_cases h:j=i
  ·subst h;simp [show ¬ (j+1≤j)by omega]
  · by_cases c:i+1≤j∧j<i+1+a.length
    · have b:i≤j∧j<i+ (v::a).length:=by simp;omega
      simp only [Nat.succ_eq_add_one,c,b,and_self,if_true];rw [show j-i= (j- (i+1)) +1 by omega];simp
    · have b:¬ (i≤j∧j<i+ (v::a).length) :=by simp;omega
      rw [if_neg (by simpa using c),if_neg b,if_neg h]
theorem kL {t:T AV}:∀ {n i:Nat} {a:List AV},getCells t i n=some a→a.length=n∧∀j,j<n→t.at (i+j) =a[j]?:=by
 intro n
 induction n with
 |zero=>intro i a h;simp [getCells]at h;subst h;simp
 | succ n c=>
  intro i a h;simp only [getCells]at h;split at h
  ·cases h
  · rename_i v e;split at h
    ·cases h
    · rename_i g b;cases h;obtain⟨f,d⟩ :=c b;refine⟨by simp [f],fun j k=>?_⟩;cases j with
      |zero=>simpa using e
      |succ j=>rw [show i+ (j+1) =Nat.succ i+j by omega,d j (by omega)];simp
theorem dF :∀ (l n:Nat),(aJ l n).length=l:=by
 intro l;induction l with
 |zero=>intro n;rfl
 |succ l a=>intro n;simp [aJ,a]
theorem dV :∀ (l:List UInt8),aJ l.length (aD l) =l:=by
 intro l;induction l with
 |nil=>rfl
 | cons b bs a=>
  have d: (b.toNat+256*aD bs) % 256=b.toNat:=by have:=b.toNat_lt;omega
  have c: (b.toNat+256*aD bs) / 256=aD bs:=by have:=b.toNat_lt;omega
  simp only [rY,aJ,aD,d,c,a];simp
theorem gI :∀ (l n i:Nat),i<l→ (aJ l n)[i]?=some (UInt8.ofNat (n / 256 ^ i % 256)) :=by
 intro l;induction l with
 |zero=>intro n i h;omega
 | succ l a=>
  intro n i h;cases i with
  |zero=>simp [aJ]
  | succ i=>
   simp only [aJ,aDQ];rw [a _ _ (by omega),Nat.div_div_eq_div_mul,pow_succ,mul_comm 256]
theorem aDT :∀ (k l n:Nat),(aJ l n).drop k=aJ (l-k) (n / 256 ^ k) :=by
 intro k l n;apply List.ext_getElem?;intro i;rw [List.getElem?_drop];by_cases h:k+i<l
 ·rw [gI _ _ _ h,gI _ _ _ (by omega),Nat.div_div_eq_div_mul,Nat.pow_add]
 ·rw [aPG (by rw [dF];omega),aPG (by rw [dF];omega)]
theorem aDU :∀ (k l n:Nat),k≤l→ (aJ l n).take k=aJ k n:=by
 intro k l n hk;apply List.ext_getElem?;intro i;by_cases h:i<k
 ·rw [List.getElem?_take_of_lt h,gI _ _ _ h,gI _ _ _ (by omega)]
 ·rw [aPG (by rw [List.length_take,dF];omega),aPG (by rw [dF];omega)]
theorem yA :∀ (l n:Nat),aJ l (n % 256 ^ l) =aJ l n:=by
 intro l;induction l with
 |zero=>intro n;rfl
 | succ l a=>
  intro n;simp only [aJ];have c:n % 256 ^ (l+1) % 256=n % 256:=Nat.mod_mod_of_dvd _ ⟨256 ^ l,by rw [pow_succ,mul_comm]⟩;have b:n % 256 ^ (l+1) / 256=n / 256 % 256 ^ l:=by
   rw [pow_succ,mul_comm,Nat.mod_mul_right_div_self]
  rw [c,b,a]
theorem aFy :∀ (l n m:Nat),aJ l n=aJ l m→n % 256 ^ l=m % 256 ^ l:=by
 intro l;induction l with
 |zero=>intro n m _;simp [Nat.mod_one]
 | succ l a=>
  intro n m h;simp only [aJ,List.cons.injEq]at h;have c:n % 256=m % 256:=by
   have:=congrArg UInt8.toNat h.1;simpa using this
  have b:=a _ _ h.2;rw [pow_succ,mul_comm,mod_mul,mod_mul,c,b]
theorem aBh :∀ (l n a n':Nat),aJ l n++aJ a n'=aJ (l+a) (n % 256 ^ l+256 ^ l*n') :=by
 intro l;induction l with
 |zero=>intro n a n';simp [aJ,Nat.mod_one]
 | succ l c=>
  intro n a n';rw [show l+1+a= (l+a) +1 by omega];simp only [aJ,aDS,c];have e:n % 256 ^ (l+1) =n % 256+256* (n / 256 % 256 ^ l) :=by rw [pow_succ,mul_comm,mod_mul]
  have b:256 ^ (l+1) *n'=256* (256 ^ l*n') :=by rw [pow_succ,mul_comm (256 ^ l),mul_assoc]
  have f: (n % 256 ^ (l+1) +256 ^ (l+1) *n') % 256=n % 256:=by rw [e,b];omega
  have d: (n % 256 ^ (l+1) +256 ^ (l+1) *n') / 256=n / 256 % 256 ^ l+256 ^ l*n':=by rw [e,b];omega
  rw [f,d]
def eQ (l n:Nat) :ByteArray:= ⟨⟨aJ l n⟩⟩
theorem jU (l n:Nat) : (eQ l n).size=l:=by simp [eQ,ByteArray.size,dF]
theorem uR (l n l' n':Nat) :jA l n l' n'=decide (aJ l n=aJ l' n') :=by
 unfold jA;rw [aZ,aZ];by_cases h:l=l'
 · subst h;simp only [decide_true,lE];congr 1;apply propext;constructor
   · intro h;rw [←yA l n,←yA l n'];exact congrArg _ h
   ·exact aFy l n n'
 · have:aJ l n≠aJ l' n':=fun e=>h (by rw [←dF l n,e,dF]);simp [h,this]
section
structure Loc where
 blk:Nat
 sh:Nat
 sz:Nat
def mH :List Nat→Nat
 | [] =>0
 |a::r=>2 ^ a* (2*mH r+1)
theorem pow_odd :∀ (a b x y:Nat),2 ^ a* (2*x+1) =2 ^ b* (2*y+1) →a=b∧x=y
 |0,0,x,y,h=>by simp at h;exact⟨rfl,by omega⟩
 |0,b+1,x,y,h=>by rw [pow_succ,mul_comm (2 ^ b) 2,mul_assoc]at h;omega
 |a+1,0,x,y,h=>by rw [pow_succ,mul_comm (2 ^ a) 2,mul_assoc]at h;omega
 | a+1,b+1,x,y,h=>by
  rw [pow_succ,pow_succ,mul_comm (2 ^ a) 2,mul_comm (2 ^ b) 2,mul_assoc,mul_assoc]at h;obtain⟨d,c⟩ :=pow_odd a b x y (by omega);exact⟨by rw [d],c⟩
theorem aHw (a:Nat)(r:List Nat) :mH (a::r) ≠0:=by
 have:0<2 ^ a:=Nat.pow_pos (by omega);have h:0<2 ^ a* (2*mH r+1) :=Nat.mul_pos this (by omega);show 2 ^ a* (2*mH r+1) ≠0;omega
theorem aHx :∀ (l k:List Nat),mH l=mH k→l=k
 | [],[],_=>rfl
 | [],a::r,h=>absurd h.symm (aHw a r)
 |a::r,[],h=>absurd h (aHw a r)
 | a::r,b::s,h=>by
  obtain⟨d,c⟩ :=pow_odd a b _ _ h;rw [d,aHx r s c]
open Classical in
noncomputable def oK (n:Nat) :List Nat:=if h:∃l,mH l=n then h.choose else []
theorem aEq (l:List Nat) :oK (mH l) =l:=by
 have h:∃k,mH k=mH l:= ⟨l,rfl⟩;unfold oK;rw [dif_pos h];exact aHx _ _ h.choose_spec
structure Emb where
 loc:Nat→Option Loc
 imm:Nat→Option (Array Value)
instance : CoeFun Emb (fun _=>Nat→Option Loc) := ⟨Emb.loc⟩
def Emb.p (E:Emb) :Emb:= ⟨fun _=>none,E.imm⟩
def Emb.le (E E':Emb) :Prop:= (∀b L,E b=some L→E' b=some L) ∧∀k C,E.imm k=some C→E'.imm k=some C
theorem Emb.le.refl (E:Emb) :E.le E:= ⟨fun _ _ h=>h,fun _ _ h=>h⟩
theorem Emb.le.trans {A B C:Emb}(h:A.le B)(k:B.le C) :A.le C:= ⟨fun b L e=>k.1 b L (h.1 b L e),fun b L e=>k.2 b L (h.2 b L e)⟩
theorem Emb.le.pp {A B:Emb}(h:A.le B) :A.p.le B.p:= ⟨fun _ _ e=>e,h.2⟩
theorem Emb.p_le (A:Emb) :A.p.le A:= ⟨fun b L e=>by simp [Emb.p]at e,fun _ _ e=>e⟩
theorem Emb.pp (A:Emb) :A.p.p=A.p:=rfl
def Emb.put (E:Emb)(b:Nat)(L:Loc) :Emb:= ⟨fun x=>if x=b then some L else E x,E.imm⟩
theorem Emb.le_put {E:Emb}{b:Nat}{L:Loc}(h:E b=none) :E.le (E.put b L) := ⟨fun x M e=>by
 simp only [Emb.put];split
 ·rename_i a;subst a;rw [h]at e;cases e
 ·exact e,fun _ _ e=>e⟩
def flat (vs:List Value) :List Value:=vs.flatMap fun v=>v.cells.toList
def vM (e:Nat)(u:Value) :Prop:=u.cells.size=e∧∀c∈u.cells.toList,c.oneCell'=true
def ImmS (imm:Nat→Option (Array Value))(e:Nat)(ex:Bool)(v:Value)(vs:List Value) :Prop:=
 (∀u∈vs,vM e u) ∧ ((vs= [] ∧∃a cap,v= .slice a 0 cap∧ (a=none→cap=0) ∧ (ex=true→cap=0)) ∨
  ∃k a cap C,v= .slice (some ⟨k,a,none⟩) vs.length cap∧imm k=some C∧vs.length≤cap∧ (ex=true→cap=vs.length) ∧∀j,j<vs.length*e→C[a+j]?= (flat vs)[j]?)
theorem ImmS.mono {c b:Nat→Option (Array Value)}(h:∀k C,c k=some C→b k=some C){e:Nat}{ex:Bool}{v:Value}{vs:List Value}(r:ImmS c e ex v vs) :ImmS b e ex v vs:=by
 refine⟨r.1,?_⟩;rcases r.2 with g| ⟨k,a,d,C,j,f,i⟩
 ·exact .inl g
 ·exact .inr ⟨k,a,d,C,j,h _ _ f,i⟩
theorem Emb.put_same (E:Emb)(b:Nat)(L:Loc) :E.put b L b=some L:=by simp [Emb.put]
theorem Emb.put_ne (E:Emb){b x:Nat}(L:Loc)(h:x≠b) :E.put b L x=E x:=by simp [Emb.put,h]
mutual
def VR :Emb→AV→Value→Prop
 |_,.bool b,v=>v= .bool b
 |_,.int k n,v=>v= .int k n
 |_,.str l n,v=>v= .string (eQ l n)
 |E,.ptr b o,v=>∃L,E b=some L∧v= .pointer (some ⟨L.blk,L.sh+o,none⟩)
 |_,.nilp,v=>v= .pointer none
 |E,.slice b o l c e x,v=>∃L off cap,E b=some L∧v= .slice (some ⟨L.blk,off,none⟩) l cap∧l≤c∧c≤cap∧ (x=true→cap=c) ∧ (cap≠0→off=L.sh+o) ∧off+cap*e≤L.sz
 |_,.nils,v=>v= .slice none 0 0
 |E,.map r,v=>∃L,E r=some L∧v= .map (some L.blk)
 |_,.nilm,v=>v= .map none
 |E,.func f fs cs,v=>∃a b,v= .func (.func f) ⟨a⟩ ⟨b⟩ ∧VRs E fs a∧VRs E cs b
 |E,.yield l,v=>∃L,E l=some L∧v= .func (.yield L.blk) #[] #[]
 |E,.meth n r,v=>∃u,v= .func (.method n) #[u] #[] ∧VR E r u
 |E,.via t f pr r,v=>∃u,v= .func (.via t #[] f pr) #[u] #[] ∧VR E r u
 |_,.nilf,v=>v= .nilFunc
 |E,.iface t a,v=>∃u,v= .iface t u∧VR E a u
 |_,.nili,v=>v= .nilIface
 |E,.agg vs,v=>∃us,v= .agg ⟨us⟩ ∧VRs E vs us
 |E,.tup vs,v=>∃us,v= .tuple ⟨us⟩ ∧VRs E vs us
 |E,.ilst e xs ex,v=>∃vs,VRs E.p xs vs∧ImmS E.imm e ex v vs
 |E,.iptr cs,v=>∃us,VRs E.p cs us∧∃k a C,v= .pointer (some ⟨k,a,none⟩) ∧E.imm k=some C∧∀j,j<us.length→C[a+j]?=us[j]?
 |E,.gl b e off len ex,v=> (len=0∧∃a,v= .slice a 0 0) ∨∃L a cap,E b=some L∧v= .slice (some ⟨L.blk,a,none⟩) len cap∧len≤cap∧ (ex=true→cap=len) ∧ (cap≠0→a=L.sh+off*e∧a+cap*e≤L.sz)
 |E,.ep b e i o,v=>∃L,E b=some L∧v= .pointer (some ⟨L.blk,L.sh+ (i*e+o),none⟩)
 |_,.val u,v=>v=u
def VRs :Emb→List AV→List Value→Prop
 |_,[],us=>us= []
 |E,a::aS,us=>∃u us',us=u::us'∧VR E a u∧VRs E aS us'
end
mutual
theorem VR.mono0 :∀ {E m:Emb},E.le m→∀ (a:AV) (v:Value),VR E a v→VR m a v
 |_,_,_,.bool _,_,r=>by simpa [VR]using r
 |_,_,_,.int _ _,_,r=>by simpa [VR]using r
 |_,_,_,.str _ _,_,r=>by simpa [VR]using r
 | _,_,h,.ptr _ _,_,r=>by
  simp only [VR]at r ⊢;obtain⟨L,d,c⟩ :=r;exact⟨L,h.1 _ _ d,c⟩
 |_,_,_,.nilp,_,r=>by simpa [VR]using r
 | _,_,h,.slice _ _ _ _ _ _,_,r=>by
  simp only [VR]at r ⊢;obtain⟨L,i,e,d,c⟩ :=r;exact⟨L,i,e,h.1 _ _ d,c⟩
 |_,_,_,.nils,_,r=>by simpa [VR]using r
 | _,_,h,.map _,_,r=>by
  simp only [VR]at r ⊢;obtain⟨L,d,c⟩ :=r;exact⟨L,h.1 _ _ d,c⟩
 |_,_,_,.nilm,_,r=>by simpa [VR]using r
 | _,_,h,.func _ fs j,_,r=>by
  simp only [VR]at r ⊢;obtain⟨a,b,d,c,l⟩ :=r;exact⟨a,b,d,VRs.mono0 h fs a c,VRs.mono0 h j b l⟩
 | _,_,h,.yield _,_,r=>by
  simp only [VR]at r ⊢;obtain⟨L,d,c⟩ :=r;exact⟨L,h.1 _ _ d,c⟩
 | _,_,h,.meth _ a,_,r=>by
  simp only [VR]at r ⊢;obtain⟨u,d,c⟩ :=r;exact⟨u,d,VR.mono0 h a u c⟩
 | _,_,h,.via _ _ _ a,_,r=>by
  simp only [VR]at r ⊢;obtain⟨u,d,c⟩ :=r;exact⟨u,d,VR.mono0 h a u c⟩
 |_,_,_,.nilf,_,r=>by simpa [VR]using r
 | _,_,h,.iface _ a,_,r=>by
  simp only [VR]at r ⊢;obtain⟨u,d,c⟩ :=r;exact⟨u,d,VR.mono0 h a u c⟩
 |_,_,_,.nili,_,r=>by simpa [VR]using r
 | _,_,h,.agg f,_,r=>by
  simp only [VR]at r ⊢;obtain⟨u,d,c⟩ :=r;exact⟨u,d,VRs.mono0 h f u c⟩
 | _,_,h,.tup f,_,r=>by
  simp only [VR]at r ⊢;obtain⟨u,d,c⟩ :=r;exact⟨u,d,VRs.mono0 h f u c⟩
 | _,_,h,.ilst _ o _,_,r=>by
  simp only [VR]at r ⊢;obtain⟨f,d,c⟩ :=r;exact⟨f,VRs.mono0 h.pp o f d,c.mono h.2⟩
 | _,_,h,.iptr j,_,r=>by
  simp only [VR]at r ⊢;obtain⟨n,d,k,a,C,c,l,p⟩ :=r;exact⟨n,VRs.mono0 h.pp j n d,k,a,C,c,h.2 _ _ l,p⟩
 | _,_,h,.gl _ _ _ _ _,_,r=>by
  simp only [VR]at r ⊢;rcases r with g| ⟨L,a,e,d,c⟩
  ·exact .inl g
  ·exact .inr ⟨L,a,e,h.1 _ _ d,c⟩
 | _,_,h,.ep _ _ _ _,_,r=>by
  simp only [VR]at r ⊢;obtain⟨L,d,c⟩ :=r;exact⟨L,h.1 _ _ d,c⟩
 |_,_,_,.val _,_,r=>by simpa [VR]using r
theorem VRs.mono0 :∀ {E d:Emb},E.le d→∀ (b:List AV) (c:List Value),VRs E b c→VRs d b c
 |_,_,_,[],_,r=>by simpa [VRs]using r
 | _,_,h,a::b,_,r=>by
  simp only [VRs]at r ⊢;obtain⟨u,e,i,f,g⟩ :=r;exact⟨u,e,i,VR.mono0 h a u f,VRs.mono0 h b e g⟩
end
theorem VR.mono {E E':Emb}(h:E.le E')(a:AV)(v:Value)(r:VR E a v) :VR E' a v:=VR.mono0 h a v r
theorem VRs.mono {E E':Emb}(h:E.le E')(a:List AV)(vs:List Value)(r:VRs E a vs) :VRs E' a vs:=VRs.mono0 h a vs r
theorem VRs.nil (E:Emb) :VRs E [] [] :=by simp [VRs]
theorem VRs.cons {E:Emb}{a:AV}{v:Value}{c:List AV}{b:List Value}(h:VR E a v)(k:VRs E c b) :VRs E (a::c) (v::b) :=by
 simp only [VRs];exact⟨v,b,rfl,h,k⟩
theorem VRs.nil_inv {E:Emb}{a:List Value}(h:VRs E [] a) :a= [] :=by simpa [VRs]using h
theorem VRs.cons_inv {E:Emb}{a:AV}{c:List AV}{b:List Value}(h:VRs E (a::c) b) :∃u us,b=u::us∧VR E a u∧VRs E c us:=by
 simpa [VRs]using h
theorem VRs.length {E:Emb}:∀ {b:List AV} {a:List Value},VRs E b a→a.length=b.length
 | [],_,h=>by rw [h.nil_inv];rfl
 |_::_,_,h=>by obtain⟨u,d,rfl,_,c⟩ :=h.cons_inv;simp [c.length]
theorem VRs.get {E:Emb}:∀ {c:List AV} {b:List Value},VRs E c b→∀ (i:Nat) (a:AV),c[i]?=some a→∃v,b[i]?=some v∧VR E a v
 | [],_,_,i,a,e=>by simp at e
 | x::k,_,h,i,a,e=>by
  obtain⟨u,j,rfl,g,d⟩ :=h.cons_inv;cases i with
  |zero=>simp at e;subst e;exact⟨u,rfl,g⟩
  |succ i=>simp at e;obtain⟨v,f,hr⟩ :=d.get i a e;exact⟨v,by simpa using f,hr⟩
theorem VRs.of_get {E:Emb}:∀ {d:List AV} {b:List Value},b.length=d.length→ (∀ (i:Nat) (a:AV),d[i]?=some a→∃v,b[i]?=some v∧VR E a v) →VRs E d b
 | [],b,h,_=>by cases b with|nil=>exact VRs.nil E|cons _ _=>simp at h
 | x ::g,b,h,k=>by
  cases b with
  |nil=>simp at h
  | cons u f=>
   obtain⟨v,c,hr⟩ :=k 0 x rfl;simp at c;subst c
   exact VRs.cons hr (VRs.of_get (by simpa using h) fun i a e=>by
    obtain⟨v,c,hr⟩ :=k (i+1) a (by simpa using e);exact⟨v,by simpa using c,hr⟩)
theorem VRs.append {E:Emb}:∀ {d c:List AV} {a b:List Value},VRs E d a→VRs E c b→VRs E (d++c) (a++b)
 | [],_,_,_,h,k=>by rw [h.nil_inv];exact k
 |_::_,_,_,_,h,k=>by obtain⟨u,a,rfl,f,e⟩ :=h.cons_inv;exact VRs.cons f (e.append k)
theorem VRs.take {E:Emb}{b:List AV}{c:List Value}(h:VRs E b c)(n:Nat) :VRs E (b.take n) (c.take n) :=by
 refine VRs.of_get (by simp [h.length]) fun i a e=>?_;rw [List.getElem?_take]at e ⊢;split at e
 ·rename_i d;simp only [d,if_true];exact h.get i a e
 ·cases e
theorem VRs.drop {E:Emb}{b:List AV}{c:List Value}(h:VRs E b c)(n:Nat) :VRs E (b.drop n) (c.drop n) :=by
 refine VRs.of_get (by simp [h.length]) fun i a e=>?_;rw [List.getElem?_drop]at e ⊢;exact h.get _ a e
theorem VR.cells {E:Emb}{a:AV}{v:Value}(h:VR E a v) :VRs E a.cells v.cells.toList:=by
 cases a<;>simp only [VR]at h<;>simp only [AV.cells]
 case agg l=>obtain⟨m,rfl,h⟩ :=h;exact h
 case val u=>
  subst h
  induction v.cells.toList with
  |nil=>exact VRs.nil E
  |cons c n p=>exact VRs.cons (by simp [VR]) p
 case ilst e r q=>
  obtain⟨l,f,d⟩ :=h;have j:v.cells.toList= [v] :=by rcases d.2 with⟨_,_,_,rfl,_⟩ | ⟨_,_,_,_,rfl,_⟩ <;>rfl
  rw [j];exact VRs.cons (by simp only [VR];exact⟨l,f,d⟩) (VRs.nil E)
 case iptr n=>
  obtain⟨m,f,k,a,C,rfl,d⟩ :=h;exact VRs.cons (by simp only [VR];exact⟨m,f,k,a,C,rfl,d⟩) (VRs.nil E)
 case gl b e g len q=>
  have j:v.cells.toList= [v] :=by rcases h with⟨_,_,rfl⟩ | ⟨_,_,_,_,rfl,_⟩ <;>rfl
  rw [j];exact VRs.cons (by simp only [VR];exact h) (VRs.nil E)
 all_goals (first
  | (subst h;exact VRs.cons (by simp [VR]) (VRs.nil E))
  | (obtain⟨L,f,rfl⟩ :=h;exact VRs.cons (by simp only [VR];exact⟨L,f,rfl⟩) (VRs.nil E))
  | (obtain⟨L,g,i,f,rfl,d⟩ :=h;exact VRs.cons (by simp only [VR];exact⟨L,g,i,f,rfl,d⟩) (VRs.nil E))
  | (obtain⟨a,b,rfl,d,o⟩ :=h;exact VRs.cons (by simp only [VR];exact⟨a,b,rfl,d,o⟩) (VRs.nil E))
  | (obtain⟨u,rfl,d⟩ :=h;exact VRs.cons (by simp only [VR];exact⟨u,rfl,d⟩) (VRs.nil E)))
theorem VR.one {E:Emb}{a:AV}{v:Value}(h:VR E a v)(g:a.one=true) :v.oneCell'=true:=by
 cases a<;>simp only [VR]at h<;>simp only [AV.one,aAa]at g
 case ilst e n j=>obtain⟨l,f,c⟩ :=h;rcases c.2 with⟨_,_,_,rfl,_⟩ | ⟨_,_,_,_,rfl,_⟩ <;>rfl
 case iptr o=>obtain⟨m,f,k,a,C,rfl,c⟩ :=h;rfl
 case gl b e d len j=>rcases h with⟨_,_,rfl⟩ | ⟨_,_,_,_,rfl,_⟩ <;>rfl
 case val u=>subst h;cases v<;>first|rfl|cases g
 all_goals (first
  | (subst h;rfl)
  | (obtain⟨L,f,rfl⟩ :=h;rfl)
  | (obtain⟨L,d,i,f,rfl,c⟩ :=h;rfl)
  | (obtain⟨a,b,rfl,c,p⟩ :=h;rfl)
  | (obtain⟨u,rfl,c⟩ :=h;rfl))
theorem aAc {v:Value}{a:AV}(h:aBY v=some a)(E:Emb) :VR E a v:=by
 unfold aBY at h;split at h<;>cases h<;>simp only [VR]
 · rename_i s;have:=dV s.data.toList;simp only [Array.length_toList]at this;simp only [eQ,this]
 ·exact⟨[],[],rfl,VRs.nil E,VRs.nil E⟩
theorem aAM :∀ {b:List Value} {c:List AV},xT b=some c→∀E,VRs E c b
 | [],_,h,E=>by simp [xT]at h;subst h;exact VRs.nil E
 | v::b,_,h,E=>by
  simp only [xT]at h;split at h
  ·rename_i a c e d;cases h;exact VRs.cons (aAc e E) (aAM d E)
  ·cases h
theorem aB4 {v:Value}{a:AV}(h:aMD v=some a)(E:Emb) :VR E a v:=by
 unfold aMD at h;split at h
 · split at h
   ·rename_i l hl;cases h;simp only [VR];exact⟨_,rfl,aAM hl E⟩
   ·cases h
 ·cases h;simp only [AV.undef,VR];exact⟨[],rfl,VRs.nil E⟩
 · split at h
   ·rename_i a b;cases h;simp only [VR];exact⟨_,rfl,aAc b E⟩
   ·cases h
 ·exact aAc h E
def TR (E:Emb)(tm:T AV)(nt:Nat)(tmps:Array Value) :Prop:=
 tmps.size=nt∧∀t a,tm.at t=some a→∃v,tmps[t]?=some v∧VR E a v
theorem TR.mono {E E':Emb}(h:E.le E'){tm:T AV}{b:Nat}{tmps:Array Value}(r:TR E tm b tmps) :TR E' tm b tmps:=
 ⟨r.1,fun t a e=>by obtain⟨v,d,c⟩ :=r.2 t a e;exact⟨v,d,c.mono h⟩⟩
def ERs (E:Emb) :List (AV×AV×Nat) →List MapEntry→Prop
 | [],us=>us= []
 |a::aS,us=>∃u us',us=u::us'∧VR E a.1 u.key∧VR E a.2.1 u.val∧u.born=a.2.2∧ERs E aS us'
theorem ERs.mono {E E':Emb}(h:E.le E') :∀ {c:List (AV×AV×Nat)} {b:List MapEntry},ERs E c b→ERs E' c b
 | [],_,r=>by simpa [ERs]using r
 | _::_,_,r=>by
  simp only [ERs]at r ⊢;obtain⟨u,a,e,d,g,i,f⟩ :=r;exact⟨u,a,e,d.mono h,g.mono h,i,ERs.mono h f⟩
theorem ERs.split {E:Emb}:∀ {e d:List (AV×AV×Nat)} {b:List MapEntry},ERs E (e++d) b→∃a c,b=a++c∧ERs E e a∧ERs E d c
 | [],_,b,r=> ⟨[],b,rfl,rfl,r⟩
 | _::_,_,_,r=>by
  simp only [aDS,ERs]at r;obtain⟨u,g,rfl,f,k,l,j⟩ :=r;obtain⟨a,c,rfl,i,h⟩ :=ERs.split j;exact⟨u::a,c,rfl,⟨u,a,rfl,f,k,l,i⟩,h⟩
theorem pZ {f g:Nat→Option Loc}(h:∀b L,f b=some L→g b=some L) :∀ {a:List Nat} {c:List Loc},List.map f a=List.map some c→List.map g a=List.map some c
 | [],[],_=>rfl
 | [],_::_,e=>by simp at e
 |_::_,[],e=>by simp at e
 | r::a,L::c,e=>by
  simp only [dS,List.cons.injEq]at e ⊢;exact⟨h _ _ e.1,pZ h e.2⟩
noncomputable def fpz (own:Bool)(L:Loc) :List Nat:=bif own then oK L.blk else []
def OR (E:Emb)(H:Array Obj)(L:Loc) :AObj→Prop
 | .cells t n _ _=>∃C elem,H[L.blk]?=some (.cells C elem (0,0)) ∧C.size=L.sz∧∀i a,t.at i=some a→i<n∧∃v,C[L.sh+i]?=some v∧VR E a v
 | .map es clock=>∃ES:Array MapEntry,H[L.blk]?=some (.map ES clock) ∧ERs E es ES.toList
 | .siter l n pos=>H[L.blk]?=some (.stringIter (eQ l n) pos) ∧L.sh=0
 | .loop st pe fn tm nt ps aS bd df=>∃tmps Ld,H[L.blk]?=some (.loop {state:=st,pending:=pe,fn,tmps,params:= ⟨ps⟩,assign:=aS,body:=bd,defers:=Ld.blk}) ∧E df=some Ld∧TR E tm nt tmps
 | .defd taken=>H[L.blk]?=some (.deferred (if taken then none else some []))
 | .miter m since seen last=>∃Lm,H[L.blk]?=some (.mapIter (some Lm.blk) since ⟨seen⟩ last) ∧E m=some Lm∧L.sh=0
 | .lstv u e xs=>∃C elem vs,H[L.blk]?=some (.cells C elem (0,0)) ∧C.size=L.sz∧VRs E xs vs∧ (∀u∈vs,vM e u) ∧ (∀j,j<vs.length*e→C[L.sh+j]?= (flat vs)[j]?) ∧
   ∃a cap,u= .slice (some ⟨L.blk,a,none⟩) xs.length cap∧xs.length≤cap∧ (cap≠0→a=L.sh∧a+cap*e≤L.sz)
 | .lst e xs=>∃C elem vs,H[L.blk]?=some (.cells C elem (0,0)) ∧C.size=L.sz∧VRs E xs vs∧ (∀u∈vs,vM e u) ∧∀j,j<vs.length*e→C[L.sh+j]?= (flat vs)[j]?
 | .zone w rs Z=> (∀i∈fpz w L,∃C e,H[i]?=some (.cells C e (0,0))) ∧∃Ls:List Loc,List.map E.loc rs=List.map some Ls∧∀ (imm':Nat→Option (Array Value)) (H':Array Obj),(∀k C,E.imm k=some C→imm' k=some C) → (∀i∈fpz w L,H'[i]?=H[i]?) →Z (fpz w L) (List.map (fun K=> (K.blk,K.sh,K.sz)) Ls) imm' H'
def Own :AObj→Loc→Nat→Prop
 | .zone w _ _,L,i=>i∈fpz w L
 |_,L,i=>L.blk=i
def one1 :AObj→Bool
 | .zone .. =>false
 |_=>true
theorem bO {o:AObj}(h:one1 o=true){L:Loc}{i:Nat}:Own o L i↔L.blk=i:=by
 cases o with
 |zone a b Z=>cases h
 |_=>exact Iff.rfl
def Meet (o o':AObj)(L L':Loc) :Prop:=∃i,Own o L i∧Own o' L' i
theorem Meet.symm {o o':AObj}{L c:Loc}(h:Meet o o' L c) :Meet o' o c L:=by obtain⟨i,a,b⟩ :=h;exact⟨i,b,a⟩
theorem OR.mono {E E':Emb}(h:E.le E'){H:Array Obj}{L:Loc}{o:AObj}(r:OR E H L o) :OR E' H L o:=by
 cases o with
 | cells t n older N=>
  obtain⟨C,b,c,d,f⟩ :=r;exact⟨C,b,c,d,fun i a e=>by obtain⟨G,v,O,F⟩ :=f i a e;exact⟨G,v,O,F.mono h⟩⟩
 |map S p=>obtain⟨Q,c,d⟩ :=r;exact⟨Q,c,d.mono h⟩
 |siter l n y=>exact r
 |loop st pe fn R nt X W T U=>obtain⟨g,z,c,d,f⟩ :=r;exact⟨g,z,c,h.1 _ _ d,f.mono h⟩
 |defd t=>exact r
 |lst e K=>obtain⟨C,b,q,c,d,f,w⟩ :=r;exact⟨C,b,q,c,d,f.mono h,w⟩
 |lstv u e K=>obtain⟨C,b,q,c,d,f,w⟩ :=r;exact⟨C,b,q,c,d,f.mono h,w⟩
 |miter m s l n=>obtain⟨Lm,c,d,f⟩ :=r;exact⟨Lm,c,h.1 _ _ d,f⟩
 |zone Y V Z=>obtain⟨B,J,I,D⟩ :=r;exact⟨B,J,pZ h.1 I,fun j A M x=>D j A (fun k C e=>M k C (h.2 k C e)) x⟩
theorem OR.there {E:Emb}{H:Array Obj}{L:Loc}{o:AObj}(r:OR E H L o)(i:one1 o=true) :∃ob,H[L.blk]?=some ob:=by
 cases o with
 |cells t n older h=>obtain⟨C,b,a,_⟩ :=r;exact⟨_,a⟩
 |map j c=>obtain⟨z,a,_⟩ :=r;exact⟨_,a⟩
 |siter l n f=>exact⟨_,r.1⟩
 |loop st y fn k B p A q w=>obtain⟨_,_,a,_⟩ :=r;exact⟨_,a⟩
 |defd t=>exact⟨_,r⟩
 |lst e g=>obtain⟨C,b,d,a,_⟩ :=r;exact⟨_,a⟩
 |lstv u e g=>obtain⟨C,b,d,a,_⟩ :=r;exact⟨_,a⟩
 |miter m s l n=>obtain⟨Lm,a,_⟩ :=r;exact⟨_,a⟩
 |zone v x Z=>cases i
theorem OR.lt {E:Emb}{H:Array Obj}{L:Loc}{o:AObj}(r:OR E H L o) :∀i,Own o L i→i<H.size:=by
 intro i a;cases b:one1 o with
 | true=>
  rw [bO b]at a;subst a;obtain⟨ob,h⟩ :=r.there b;exact(zq44.1 h).1
 | false=>
  cases o with
  |zone d c Z=>obtain⟨C,e,h⟩ :=r.1 i a;exact(zq44.1 h).1
  |_=>cases b
theorem OR.heap {E:Emb}{H c:Array Obj}{L:Loc}{o:AObj}(r:OR E H L o)(h:∀i,Own o L i→c[i]?=H[i]?) :OR E c L o:=by
 cases o with
 |zone l m Z=>obtain⟨j,g,e,d⟩ :=r;exact⟨fun i a=>by rw [h i a];exact j i a,g,e,fun b k hm f=>d b k hm (fun i a=> (f i a).trans (h i a))⟩
 |_=>have h:=h _ rfl;simp only [OR,h]at r ⊢;exact r
def bK :AObj→List Nat
 | .cells _ _ k _=>k
 |_=>[]
def fS :AObj→Bool
 | .cells _ _ _ s=>s
 |_=>false
def nOf :AObj→Nat
 | .cells _ n _ _=>n
 |_=>0
def Kin (b b':Nat)(o o':AObj)(L L':Loc) :Prop:= (b'∈bK o∧fS o'=true∧L'.sh+nOf o'≤L.sh+nOf o) ∨ (b∈bK o'∧fS o=true∧L.sh+nOf o≤L'.sh+nOf o')
def lM :AObj→Bool
 | .lst _ [] =>true
 |_=>false
structure Rel (E:Emb) (h:Hp) (H:Array Obj) :Prop where
 obj0:∀b o,h.look b=some o→ (lM o=true∧E b=none) ∨∃L,E b=some L∧OR E H L o
 kin:∀b b' o o' L L',h.look b=some o→h.look b'=some o'→E b=some L→E b'=some L'→Meet o o' L L'→b≠b'→Kin b b' o o' L L'
 fresh:∀b,h.nb≤b→E b=none
 imm:∀k C,E.imm k=some C→∃e f,H[k]?=some (.cells C e f)
 apart:∀b o L,h.look b=some o→E b=some L→∀i,Own o L i→E.imm i=none
 keys:∀b o,h.look b=some o→b<h.nb
theorem Rel.obj {E:Emb}{h:Hp}{H:Array Obj}(r:Rel E h H)(b:Nat)(o:AObj)(hb:h.look b=some o)(c:lM o=false:=by rfl) :∃L,E b=some L∧OR E H L o:=by
 rcases r.obj0 b o hb with⟨a,_⟩ |g
 ·rw [c]at a;cases a
 ·exact g
theorem Rel.objL {E:Emb}{h:Hp}{H:Array Obj}(r:Rel E h H){b:Nat}{o:AObj}(hb:h.look b=some o){L:Loc}(hE:E b=some L) :OR E H L o:=by
 rcases r.obj0 b o hb with⟨_,a⟩ | ⟨d,a,c⟩
 ·rw [hE]at a;cases a
 ·rw [hE]at a;cases a;exact c
theorem Rel.immLt {E:Emb}{h:Hp}{H:Array Obj}(r:Rel E h H){k:Nat}{C:Array Value}(hk:E.imm k=some C) :k<H.size:=by
 obtain⟨e,f,a⟩ :=r.imm k C hk;exact(zq44.1 a).1
def noFrz :Obj→Bool
 | .cells _ _ f=>f== (0,0)
 |_=>true
theorem qA {w:World}{a:Addr}{ob:Obj}(h:w.heap[a.block]?=some ob)(hz:noFrz ob=true) :w.frozen? a=false:=by
 unfold World.frozen?;rw [h];cases ob with
 | cells c e f=>
  simp only [noFrz,beq_iff_eq]at hz;subst hz;simp
 |_=>rfl
theorem sP (w:World){ob:Obj}(hz:noFrz ob=true)(a:Addr) : ({w with heap:=w.heap.push ob}:World).frozen? a=w.frozen? a:=by
 by_cases b:a.block=w.heap.size
 · rw [qA (w:={w with heap:=w.heap.push ob}) (ob:=ob) (by rw [b];simp) hz];unfold World.frozen?;rw [Array.getElem?_eq_none (by omega)]
 · unfold World.frozen?;simp only [Array.getElem?_push,b,if_false]
theorem qB {w:World}{i:Nat}{ob ob':Obj}(c:w.heap[i]?=some ob)(d:noFrz ob=true)(h2:noFrz ob'=true)(a:Addr) : ({w with heap:=w.heap.setIfInBounds i ob'}:World).frozen? a=w.frozen? a:=by
 by_cases b:i=a.block
 · subst b;have:= (zq44.1 c).1;rw [qA (w:={w with heap:=w.heap.setIfInBounds a.block ob'}) (ob:=ob') (by simp [this]) h2,qA c d]
 · unfold World.frozen?;simp only [pW b]
theorem OR.noFrz {E:Emb}{H:Array Obj}{L:Loc}{o:AObj}(r:OR E H L o)(i:one1 o=true) :∃ob,H[L.blk]?=some ob∧Hb.noFrz ob=true:=by
 cases o with
 |zone v z Z=>cases i
 |cells t n older h=>obtain⟨C,b,a,_⟩ :=r;exact⟨_,a,rfl⟩
 |map j c=>obtain⟨y,a,_⟩ :=r;exact⟨_,a,rfl⟩
 |siter l n f=>exact⟨_,r.1,rfl⟩
 |loop st x fn k B p A q w=>obtain⟨_,_,a,_⟩ :=r;exact⟨_,a,rfl⟩
 |defd t=>exact⟨_,r,rfl⟩
 |lst e g=>obtain⟨C,b,d,a,_⟩ :=r;exact⟨_,a,rfl⟩
 |lstv u e g=>obtain⟨C,b,d,a,_⟩ :=r;exact⟨_,a,rfl⟩
 |miter m s l n=>obtain⟨Lm,a,_⟩ :=r;exact⟨_,a,rfl⟩
structure Ext (E:Emb) (h:Hp) (w:World) (E':Emb) (h':Hp) (w':World) :Prop where
 le:E.le E'
 size:w.heap.size≤w'.heap.size
 keep:∀i,i<w.heap.size→ (∀b o L,h.look b=some o→E b=some L→¬Own o L i) →w'.heap[i]?=w.heap[i]?
 own:∀b' o' L',h'.look b'=some o'→E' b'=some L'→∀i,Own o' L' i→i<w.heap.size→∃b o L,h.look b=some o∧E b=some L∧Own o L i
 nb:h.nb≤h'.nb
 os:w'.os=w.os
 tape:w'.tape=w.tape
 output:w'.output=w.output
 low:∀b,b<h.nb→E' b=E b
 froz:∀a,a.block<w.heap.size→w'.frozen? a=w.frozen? a
 immo:∀k C,E'.imm k=some C→k<w.heap.size→E.imm k=some C∨∃b o L,h.look b=some o∧E b=some L∧Own o L k
 keys:∀b o,h'.look b=some o→b<h.nb→∃o0,h.look b=some o0
theorem Ext.refl (E:Emb)(h:Hp)(w:World) :Ext E h w E h w:=
 ⟨Emb.le.refl E,le_refl _,fun _ _ _=>rfl,fun b o L d a i c _=> ⟨b,o,L,d,a,c⟩,le_refl _,rfl,rfl,rfl,fun _ _=>rfl,fun _ _=>rfl,fun _ _ e _=>.inl e,fun _ o e _=> ⟨o,e⟩⟩
theorem Ext.trans {r s p:Emb}{n h2 m:Hp}{t w2 u:World}(a:Ext r n t s h2 w2)(b:Ext s h2 w2 p m u) :Ext r n t p m u where
 le:=a.le.trans b.le
 size:=le_trans a.size b.size
 keep:=fun i h q=>by
  rw [b.keep i (lt_of_lt_of_le h a.size) fun x o L c hE hb=>by
   obtain⟨v,B,y,f,l,d⟩ :=a.own x o L c hE i hb h;exact q v B y f l d]
  exact a.keep i h q
 own:=fun x o L c hE i h j=>by
  obtain⟨w,z,A,f,l,d⟩ :=b.own x o L c hE i h (lt_of_lt_of_le j a.size);exact a.own w z A f l i d j
 nb:=le_trans a.nb b.nb
 os:=b.os.trans a.os
 tape:=b.tape.trans a.tape
 output:=b.output.trans a.output
 low:=fun x c=> (b.low x (lt_of_lt_of_le c a.nb)).trans (a.low x c)
 froz:=fun x c=> (b.froz x (lt_of_lt_of_le c a.size)).trans (a.froz x c)
 immo:=fun k C e hk=>by
  rcases b.immo k C e (lt_of_lt_of_le hk a.size)with g| ⟨x,o,L,f,l,d⟩
  ·exact a.immo k C g hk
  ·exact .inr (a.own x o L f l k d hk)
 keys:=fun x o e c=>by
  obtain⟨F,D⟩ :=b.keys x o e (lt_of_lt_of_le c a.nb);exact a.keys x F D c
theorem aU (h:Hp)(b:Nat)(o:AObj)(x:Nat) : (h.set b o).look x=if x=b then some o else h.look x:=T.at_put _ _ _ _
theorem mI (h:Hp)(b:Nat)(x:Nat) : (h.del b).look x=if x=b then none else h.look x:=T.at_del _ _ _
theorem cA (h:Hp)(o:AObj)(x:Nat) : (h.new o).look x=if x=h.nb then some o else h.look x:=T.at_put _ _ _ _
theorem lH (h:Hp)(o:AObj) : (h.new o).nb=h.nb+1:=rfl
theorem fU (h:Hp)(b:Nat)(o:AObj) : (h.set b o).nb=h.nb:=rfl
theorem aFz (h:Hp)(b:Nat) : (h.del b).nb=h.nb:=rfl
theorem bX :∀ (a:List Nat) (h:Hp) (x:Nat),(h.delAll a).look x=if x∈a then none else h.look x
 | [],h,x=>by simp [Hp.delAll]
 | b::a,h,x=>by
  rw [Hp.delAll,bX a,mI];by_cases c:x∈a
  ·simp [c]
  ·by_cases d:x=b<;>simp [c,d]
theorem jV :∀ (a:List Nat) (h:Hp),(h.delAll a).nb=h.nb
 | [],_=>rfl
 |b::a,h=>by rw [Hp.delAll,jV a];rfl
theorem Rel.sub {E:Emb}{h h':Hp}{H:Array Obj}(r:Rel E h H)(a:∀b o,h'.look b=some o→h.look b=some o)(c:h.nb≤h'.nb) :Rel E h' H where
 obj0:=fun b o e=>r.obj0 b o (a b o e)
 imm:=r.imm
 apart:=fun b o L e=>r.apart b o L (a _ _ e)
 keys:=fun b o e=>lt_of_lt_of_le (r.keys b o (a _ _ e)) c
 kin:=fun b f o d L g e i=>r.kin b f o d L g (a _ _ e) (a _ _ i)
 fresh:=fun b e=>r.fresh b (le_trans c e)
theorem Rel.lt {E:Emb}{h:Hp}{H:Array Obj}(r:Rel E h H){b:Nat}{o:AObj}{L:Loc}(hb:h.look b=some o)(hE:E b=some L) :∀i,Own o L i→i<H.size:= (r.objL hb hE).lt
theorem Rel.nb_gt {E:Emb}{h:Hp}{H:Array Obj}(r:Rel E h H){b:Nat}{L:Loc}(hE:E b=some L) :b<h.nb:=by
 rcases Nat.lt_or_ge b h.nb with g|g
 ·exact g
 ·rw [r.fresh b g]at hE;cases hE
theorem Rel.new {E:Emb}{h:Hp}{w:World}(r:Rel E h w.heap)(o:AObj)(ob:Obj)(sz:Nat)
  (K:∀ (B:Emb) (G:Array Obj),E.le B→B h.nb=some ⟨w.heap.size,0,sz⟩ →G[w.heap.size]?=some ob→OR B G ⟨w.heap.size,0,sz⟩ o)  (hz:noFrz ob=true:=by rfl) (c:one1 o=true:=by rfl) :
  Rel (E.put h.nb ⟨w.heap.size,0,sz⟩) (h.new o) (w.heap.push ob) ∧Ext E h w (E.put h.nb ⟨w.heap.size,0,sz⟩) (h.new o) {w with heap:=w.heap.push ob}:=by
 have I:E h.nb=none:=r.fresh _ (le_refl _);have p:E.le (E.put h.nb ⟨w.heap.size,0,sz⟩) :=Emb.le_put I;have d:∀ {i},i<w.heap.size→ (w.heap.push ob)[i]?=w.heap[i]?:=fun f=>by rw [Array.getElem?_push,if_neg (by omega)]
 refine⟨⟨?_,?_,?_,?_,?_,fun b j e=>by
  rw [cA]at e;rw [lH];split at e
  ·omega
  ·have:=r.keys b j e;omega⟩,⟨p,by simp,fun i f _=>d f,?_,by simp [lH],rfl,rfl,rfl,fun x T=>Emb.put_ne _ _ (by omega),(fun a _=>sP w hz a),fun _ _ e _=>.inl e,fun b j e hb=>by
  rw [cA,if_neg (by omega)]at e;exact⟨j,e⟩⟩⟩
 · intro b j e;rw [cA]at e;split at e
   · rename_i hb;cases e;subst hb;exact .inr ⟨_,Emb.put_same _ _ _,K _ _ p (Emb.put_same _ _ _) (by rw [Array.getElem?_push];simp)⟩
   · rename_i hb;rcases r.obj0 b j e with⟨R,N⟩ | ⟨L,M,H⟩
     ·exact .inl ⟨R,by rw [Emb.put_ne _ _ hb];exact N⟩
     exact .inr ⟨L,by rw [Emb.put_ne _ _ hb];exact M,(H.mono p).heap fun i f=>d (H.lt i f)⟩
 · intro b s Q J L F e n k q m u;rw [cA]at e n;by_cases z:b=h.nb
   · subst z;rw [Emb.put_same]at k;cases k;rw [if_pos rfl]at e;cases e;have t:s≠h.nb:=fun e=>u e.symm;rw [if_neg t]at n;rw [Emb.put_ne _ _ t]at q;obtain⟨i,y,v⟩ :=m;have:=r.lt n q i v;rw [bO c]at y;rw [←y]at this;exact absurd this (lt_irrefl _)
   · rw [if_neg z]at e;rw [Emb.put_ne _ _ z]at k;by_cases A:s=h.nb
     · subst A;rw [Emb.put_same]at q;cases q;rw [if_pos rfl]at n;cases n;obtain⟨i,y,v⟩ :=m;have:=r.lt e k i y;rw [bO c]at v;rw [←v]at this;exact absurd this (lt_irrefl _)
     · rw [if_neg A]at n;rw [Emb.put_ne _ _ A]at q;exact r.kin b s Q J L F e n k q m u
 · intro b e;rw [lH]at e;rw [Emb.put_ne _ _ (by omega)];exact r.fresh b (by omega)
 · intro k C e;obtain⟨O,S,g⟩ :=r.imm k C e;exact⟨O,S,by rw [d (zq44.1 g).1];exact g⟩
 · intro b j L e k i l;show E.imm i=none;rw [cA]at e;by_cases hb:b=h.nb
   · subst hb;rw [Emb.put_same]at k;cases k;rw [if_pos rfl]at e;cases e;rw [bO c]at l;subst l;show E.imm w.heap.size=none;cases f:E.imm w.heap.size with
     |none=>rfl
     |some C=>exact absurd (r.immLt f) (lt_irrefl _)
   · rw [if_neg hb]at e;rw [Emb.put_ne _ _ hb]at k;exact r.apart b j L e k i l
 · intro s j F e k i f D;rw [cA]at e;by_cases hb:s=h.nb
   · subst hb;rw [Emb.put_same]at k;cases k;rw [if_pos rfl]at e;cases e;rw [bO c]at f;subst f;exact absurd D (lt_irrefl _)
   · rw [if_neg hb]at e;rw [Emb.put_ne _ _ hb]at k;exact⟨s,j,F,e,k,f⟩
theorem Rel.setObj {E:Emb}{h:Hp}{w:World}(r:Rel E h w.heap){b:Nat}{L:Loc}{o o':AObj}(ob:Obj)
  (hb:h.look b=some o) (hE:E b=some L) (U:bK o= []) (Q:fS o=false)
  (X:∀M:Array Obj,M[L.blk]?=some ob→OR E M L o')  (hz:noFrz ob=true:=by rfl) (c:one1 o=true:=by rfl) (d:one1 o'=true:=by rfl) :
  Rel E (h.set b o') (w.heap.setIfInBounds L.blk ob) ∧Ext E h w E (h.set b o') {w with heap:=w.heap.setIfInBounds L.blk ob}:=by
 have K:L.blk<w.heap.size:=r.lt hb hE _ ((bO c).2 rfl)
 have l:∀ {x f q},h.look x=some f→E x=some q→x≠b→¬Own f q L.blk:=fun A I s n=>by
  rcases r.kin _ _ _ _ _ _ A hb I hE ⟨_,n,(bO c).2 rfl⟩ s with⟨_,t,_⟩ | ⟨m,_⟩
  ·rw [Q]at t;cases t
  ·rw [U]at m;cases m
 have B:∀x f,(h.set b o').look x=some f→∃o0,h.look x=some o0:=fun x f e=>by
  rw [aU]at e;split at e
  ·rename_i A;subst A;exact⟨o,hb⟩
  ·exact⟨f,e⟩
 refine⟨⟨?_,?_,fun x e=>r.fresh x e,?_,?_,fun x f e=>by obtain⟨o0,W⟩ :=B x f e;exact r.keys x o0 W⟩,⟨Emb.le.refl E,by simp,?_,?_,le_refl _,rfl,rfl,rfl,fun _ _=>rfl,fun a _=>by obtain⟨R,V,S⟩ := (r.objL hb hE).noFrz c;exact qB V S hz a,fun _ _ e _=>.inl e,fun x f e _=>B x f e⟩⟩
 · intro x f e;rw [aU]at e;split at e
   · rename_i A;cases e;subst A;exact .inr ⟨L,hE,X _ (by simp [K])⟩
   · rename_i A;rcases r.obj0 x f e with u| ⟨q,N,Z⟩
     ·exact .inl u
     exact .inr ⟨q,N,Z.heap fun i v=>by rw [pW (fun D:L.blk=i=>l e N A (by rw [D];exact v))]⟩
 · intro x y f T q O j z p H n s;rw [aU]at j z;by_cases m:x=b
   · subst m;have t:y≠x:=fun e=>s e.symm;rw [if_neg t]at z;rw [if_pos rfl]at j;cases j;rw [hE]at p;cases p;obtain⟨i,G,F⟩ :=n;rw [bO d]at G;subst G;exact absurd F (l z H t)
   · rw [if_neg m]at j;by_cases t:y=b
     · subst t;rw [if_pos rfl]at z;cases z;rw [hE]at H;cases H;obtain⟨i,G,F⟩ :=n;rw [bO d]at F;subst F;exact absurd G (l j p m)
     · rw [if_neg t]at z;exact r.kin x y f T q O j z p H n s
 · intro k C e;obtain⟨Y,f1,g⟩ :=r.imm k C e;have hk:L.blk≠k:=fun D=>by rw [D.symm,r.apart b o L hb hE _ ((bO c).2 rfl)]at e;cases e
   exact⟨Y,f1,by rw [pW hk];exact g⟩
 · intro x f q j p i v;rw [aU]at j;by_cases m:x=b
   · subst m;rw [if_pos rfl]at j;cases j;exact r.apart x o q hb p i ((bO c).2 ((bO d).1 v))
   ·rw [if_neg m]at j;exact r.apart x f q j p i v
 · intro i v J;rw [pW (fun D=>J b o L hb hE ((bO c).2 D))]
 · intro x f q j p i v _;rw [aU]at j;by_cases m:x=b
   · subst m;rw [if_pos rfl]at j;cases j;rw [hE]at p;cases p;exact⟨x,o,L,hb,hE,(bO c).2 ((bO d).1 v)⟩
   ·rw [if_neg m]at j;exact⟨x,f,q,j,p,v⟩
theorem Rel.imm_put {E:Emb}{h:Hp}{H:Array Obj}(r:Rel E h H){b:Nat}{o:AObj}{L:Loc}(hb:h.look b=some o)(hE:E b=some L)(ob:Obj)(a:one1 o=true:=by rfl) :
  ∀k C,E.imm k=some C→∃e f,(H.setIfInBounds L.blk ob)[k]?=some (.cells C e f) :=fun k C e=>by
 obtain⟨c,i,g⟩ :=r.imm k C e;have hk:L.blk≠k:=fun d=>by rw [d.symm,r.apart b o L hb hE _ ((bO a).2 rfl)]at e;cases e
 exact⟨c,i,by rw [pW hk];exact g⟩
end
section
variable {P :Program}
def over (C:Array Value)(k:Nat) :List Value→Array Value
 | [] =>C
 |v::vs=>over (C.setIfInBounds k v) (k+1) vs
theorem jW :∀ (vs:List Value) (C:Array Value) (k:Nat),(over C k vs).size=C.size
 | [],_,_=>rfl
 |v::vs,C,k=>by rw [over,jW vs];simp
theorem jG :∀ (vs:List Value) (C:Array Value) (k j:Nat),k+vs.length≤C.size→ (over C k vs)[j]?=if k≤j∧j<k+vs.length then vs[j-k]? else C[j]?
 | [],C,k,j,_=>by simp [over,show ¬ (k≤j∧j<k)by omega]
 | v ::vs,C,k,j,h=>by
  simp only [rY]at h ⊢;rw [over,jG vs _ _ _ (by simp;omega)];by_cases h1:k+1≤j∧j<k+1+vs.length
  · have h2:k≤j∧j<k+ (vs.length+1) :=by omega
    rw [if_pos h1,if_pos h2,show j-k= (j- (k+1)) +1 by omega];simp
  · rw [if_neg h1];by_cases h3:j=k
    · subst h3;have h2:j≤j∧j<j+ (vs.length+1) :=by omega
      have h4:j<C.size:=by omega
      rw [if_pos h2];simp [h4]
    · have h2:¬ (k≤j∧j<k+ (vs.length+1)) :=by omega
      rw [if_neg h2,pW (by omega)]
def bP (w:World)(b:Nat)(o:Obj) :World:={w with heap:=w.heap.setIfInBounds b o}
theorem nK {w:World}{b:Nat}{o:Obj}(h:w.heap[b]?=some o) :bP w b o=w:=by
 unfold bP;have:w.heap.setIfInBounds b o=w.heap:=by
  apply Array.ext_getElem?;intro i;by_cases e:b=i
  · subst e;have:= (zq44.1 h).1;simp [this];have h2:= (zq44.1 h).2;exact h2.symm
  ·rw [pW e]
 rw [this]
theorem cell_of {w:World}{b:Nat}{C:Array Value}{e:TypeId}{f:Nat×Nat}(h:w.heap[b]?=some (.cells C e f))(k:Nat) :w.cell? ⟨b,k,none⟩ =C[k]?:=by
 simp [World.cell?,h]
theorem aNs {w:World}{b:Nat}{C:Array Value}{e:TypeId}(h:w.heap[b]?=some (.cells C e (0,0)))(k:Nat) :w.frozen? ⟨b,k,none⟩ =false:=by
 simp [World.frozen?,h]
theorem aKf {w:World}{b:Nat}{C:Array Value}{e:TypeId}{f:Nat×Nat}(h:w.heap[b]?=some (.cells C e f))(k:Nat)(v:Value) :
  w.setCell ⟨b,k,none⟩ v=bP w b (.cells (C.setIfInBounds k v) e f) :=by
 unfold World.setCell bP;refine congrArg (fun H=> ({w with heap:=H}:World)) ?_;apply Array.ext_getElem?;intro i;rw [Array.getElem?_modify];by_cases hi:b=i
 · subst hi;have h1:= (zq44.1 h).1;have h2:= (zq44.1 h).2;simp [h1,h2]
 ·rw [if_neg hi,pW hi]
theorem mJ {w:World}{b:Nat}{o o':Obj}(h:w.heap[b]?=some o) : (bP w b o').heap[b]?=some o':=by
 have:= (zq44.1 h).1;simp [bP,this]
theorem aDV (w:World)(b:Nat)(o o':Obj) :bP (bP w b o) b o'=bP w b o':=by
 simp only [bP];congr 1;apply Array.ext_getElem?;intro i;by_cases e:b=i
 · subst e;by_cases h:b<w.heap.size<;>simp [h]
 ·rw [pW e,pW e,pW e]
theorem dW (b k n:Nat) : (⟨b,k,none⟩ :Addr).add n= ⟨b,k+n,none⟩ :=by
 unfold Addr.add;split
 ·rename_i h;subst h;rfl
 ·rfl
theorem jH (vs:List Value) :∀ {w:World} {b k i:Nat} {C:Array Value} {e:TypeId},w.heap[b]?=some (.cells C e (0,0)) →k+i+vs.length≤C.size →
  (∀v∈vs,v.oneCell'=true) → (storeCells ⟨b,k,none⟩ vs i).run P w= .ok () (bP w b (.cells (over C (k+i) vs) e (0,0))) :=by
 induction vs with
 |nil=>intro w b k i C e h _ _;simp [storeCells,over,nK h]
 | cons v vs ih=>
  intro w b k i C e h hl hv;simp only [rY]at hl;have hc:w.cell? ⟨b,k+i,none⟩ =some (C[k+i]'(by omega)) :=by rw [cell_of h];simp
  have hh:=mJ (o':=.cells (C.setIfInBounds (k+i) v) e (0,0)) h;have:=ih (w:=bP w b (.cells (C.setIfInBounds (k+i) v) e (0,0))) (b:=b) (k:=k) (i:=i+1) hh (by simp;omega) (fun x hx=>hv x (dR _ hx));rw [aDV]at this;simp only [storeCells,Sem.run_bind,dW,run_store P w _ v .plain (hv v (dJ ..)),hc,aNs h,aKf h];simpa [over,Nat.add_assoc]using this
theorem run_loadCellsFrom (n:Nat) :∀ {w:World} {b k i:Nat} {C:Array Value} {e:TypeId} {f:Nat×Nat} (acc us:List Value),w.heap[b]?=some (.cells C e f) →us.length=n →
  (∀j,j<n→C[k+i+j]?=us[j]?) → (loadCellsFrom ⟨b,k,none⟩ i n ⟨acc⟩).run P w= .ok ⟨acc++us⟩ w:=by
 induction n with
 |zero=>intro w b k i C e f acc us _ hl _;have:us= [] :=zq35.1 hl;subst this;simp [loadCellsFrom]
 | succ n ih=>
  intro w b k i C e f acc us h hl hj;cases us with
  |nil=>simp at hl
  | cons u us=>
   have h0:=hj 0 (by omega);simp at h0
   have:=ih (w:=w) (b:=b) (k:=k) (i:=i+1) (C:=C) (e:=e) (f:=f) (acc++ [u]) us h (by simpa using hl) (fun j hjn=>by
    have:=hj (j+1) (by omega);rw [show k+ (i+1) +j=k+i+ (j+1)by omega,this];simp)
   simp only [loadCellsFrom,Sem.run_bind,dW,run_load,cell_of h,h0];simpa using this
theorem run_loadCells {n:Nat}{w:World}{b k:Nat}{C:Array Value}{e:TypeId}{f:Nat×Nat}(us:List Value)(h:w.heap[b]?=some (.cells C e f))(hl:us.length=n)
  (hj:∀j,j<n→C[k+j]?=us[j]?) : (loadCells ⟨b,k,none⟩ n).run P w= .ok ⟨us⟩ w:=by
 have:=run_loadCellsFrom (P:=P) n (w:=w) (b:=b) (k:=k) (i:=0) [] us h hl (by simpa using hj);simpa [loadCells]using this
theorem aKg {E:Emb}{h:Hp}{w:World}(r:Rel E h w.heap){b off:Nat}{a:AV}(hl:h.load1 b off=some a){L:Loc}(hE:E b=some L) :
  ∃v,w.cell? ⟨L.blk,L.sh+off,none⟩ =some v∧VR E a v:=by
 unfold Hp.load1 at hl;split at hl
 · rename_i t n k s hk;obtain⟨L',g1,C,e,g2,g3,g4⟩ :=r.obj _ _ hk;rw [hE]at g1;cases g1;obtain⟨_,v,k1,k2⟩ :=g4 _ _ hl;exact⟨v,by rw [cell_of g2];exact k1,k2⟩
 ·cases hl
theorem sQ {E:Emb}{h:Hp}{w:World}(r:Rel E h w.heap){b off n:Nat}{aS:List AV}(hl:h.loadN b off n=some aS){L:Loc}(hE:E b=some L) :
  ∃us,(∀P (w1:World),w1.heap=w.heap→ (loadCells ⟨L.blk,L.sh+off,none⟩ n).run P w1= .ok ⟨us⟩ w1) ∧VRs E aS us∧us.length=n:=by
 unfold Hp.loadN at hl;split at hl
 · rename_i t m k s hk;obtain⟨L',g1,C,e,g2,g3,g4⟩ :=r.obj _ _ hk;rw [hE]at g1;cases g1;obtain⟨hlen,hget⟩ :=kL hl
   have hc:∀j,j<n→∃v,C[L.sh+off+j]?=some v∧∀a,aS[j]?=some a→VR E a v:=fun j hj=>by
    have e1:=hget j hj;have e2:aS[j]?=some (aS[j]'(by omega)) :=by simp
    rw [e2]at e1;obtain⟨_,v,k1,k2⟩ :=g4 _ _ e1;exact⟨v,by rw [Nat.add_assoc];exact k1,fun a ha=>by rw [e2]at ha;cases ha;exact k2⟩
   have hsz:L.sh+off+n≤C.size∨n=0:=by
    by_cases h0:n=0
    ·exact .inr h0
    · obtain⟨v,k1,_⟩ :=hc (n-1) (by omega);have:= (zq44.1 k1).1;exact .inl (by omega)
   refine⟨(C.extract (L.sh+off) (L.sh+off+n)).toList,fun P w1 hw1=>run_loadCells _ (by rw [hw1];exact g2) (by simp;omega) (fun j hj=>?_),VRs.of_get (by simp;omega) (fun i a ha=>?_),by simp;omega⟩
   · rw [oZ,Array.getElem?_extract];rw [if_pos (by rcases hsz with h|h<;>omega)]
   · have hi:i<n:=by have:= (zq0.1 ha).1;omega
     obtain⟨v,k1,k2⟩ :=hc i hi;refine⟨v,?_,k2 a ha⟩;rw [oZ,Array.getElem?_extract,if_pos (by rcases hsz with h|h<;>omega)];exact k1
 ·cases hl
theorem aB5 {E:Emb}{h:Hp}{w:World}(r:Rel E h w.heap){b off n:Nat}{aS:List AV}(hl:h.loadN b off n=some aS){L:Loc}(hE:E b=some L) :
  ∃us,(∀P,(loadCells ⟨L.blk,L.sh+off,none⟩ n).run P w= .ok ⟨us⟩ w) ∧VRs E aS us∧us.length=n:=by
 obtain⟨us,h1,h2⟩ :=sQ r hl hE;exact⟨us,fun P=>h1 P w rfl,h2⟩
theorem VRs.ones {E:Emb}{aS:List AV}{vs:List Value}(h:VRs E aS vs)(ho:cG aS=true) :∀v∈vs,v.oneCell'=true:=by
 induction aS generalizing vs with
 |nil=>rw [h.nil_inv];intro v hv;cases hv
 | cons a aS ih=>
  obtain⟨u,us,rfl,h1,h2⟩ :=h.cons_inv;simp only [cG,dC]at ho;intro v hv;cases hv with
  |head=>exact h1.one ho.1
  |tail _ hv=>exact ih h2 ho.2 v hv
theorem Rel.write {E:Emb}{h:Hp}{w:World}(r:Rel E h w.heap){b off:Nat}{t:T AV}{n:Nat}{older:List Nat}(hb:h.look b=some (.cells t n older false)){L:Loc}(hE:E b=some L)
  {aS:List AV} {vs:List Value} (hv:VRs E aS vs) (ho:cG aS=true) (n':Nat) (hn:n≤n') (hn2:aS≠ [] →off+aS.length≤n') (hfit:L.sh+off+aS.length≤L.sz) :
  ∃ w',(∀P,(storeCells ⟨L.blk,L.sh+off,none⟩ vs).run P w= .ok () w') ∧Rel E ((h.delAll older).set b (.cells (putCells t off aS) n' [] false)) w'.heap ∧
   Ext E h w E ((h.delAll older).set b (.cells (putCells t off aS) n' [] false)) w':=by
 obtain⟨L',g1,C,e,g2,g3,g4⟩ :=r.obj _ _ hb;rw [hE]at g1;cases g1;have hvl:=hv.length;have hlt:= (zq44.1 g2).1
 have apart:∀ {x ox Lx},h.look x=some ox→E x=some Lx→x≠b→x∉older→¬Own ox Lx L.blk:=fun hx hEx hne hno hbl=>by
  rcases r.kin _ _ _ _ _ _ hx hb hEx hE ⟨_,hbl,rfl⟩ hne with⟨_,h2,_⟩ | ⟨h1,_⟩
  ·cases h2
  ·exact hno h1
 have hks:∀x ox,((h.delAll older).set b (.cells (putCells t off aS) n' [] false)).look x=some ox→∃o0,h.look x=some o0:=fun x ox e=>by
  rw [aU]at e;split at e
  ·rename_i hx;subst hx;exact⟨_,hb⟩
  · rw [bX]at e;split at e
    ·cases e
    ·exact⟨ox,e⟩
 refine⟨bP w L.blk (.cells (over C (L.sh+off) vs) e (0,0)),fun P=>?_,⟨?_,?_,fun x hx=>r.fresh x (by simpa [fU,jV]using hx),r.imm_put hb hE _,?_,fun x ox e=>by obtain⟨o0,e0⟩ :=hks x ox e;have:=r.keys x o0 e0;simpa [fU,jV]using this⟩,⟨Emb.le.refl E,by simp [bP],?_,?_,by simp [fU,jV],rfl,rfl,rfl,fun _ _=>rfl,(fun a _=>qB g2 rfl rfl a),fun _ _ e _=>.inl e,fun x ox e _=>hks x ox e⟩⟩
 · have:=jH (P:=P) vs (w:=w) (b:=L.blk) (k:=L.sh+off) (i:=0) g2 (by omega) (hv.ones ho);simpa using this
 · intro x ox ex;rw [aU]at ex;split at ex
   · rename_i hx;cases ex;subst hx;refine .inr ⟨L,hE,over C (L.sh+off) vs,e,mJ g2,by rw [jW];exact g3,fun i a ha=>?_⟩;rw [sO]at ha;by_cases hi:off≤i∧i<off+aS.length
     · rw [if_pos hi]at ha;obtain⟨v,k1,k2⟩ :=hv.get _ _ ha;refine⟨by have:=hn2 (by intro e;subst e;simp at hi;omega);omega,v,?_,k2⟩;rw [jG _ _ _ _ (by omega),if_pos (by omega),show L.sh+i- (L.sh+off) =i-off by omega];exact k1
     · rw [if_neg hi]at ha;obtain⟨k0,v,k1,k2⟩ :=g4 _ _ ha;refine⟨by omega,v,?_,k2⟩;rw [jG _ _ _ _ (by omega),if_neg (by omega)];exact k1
   · rename_i hx;rw [bX]at ex;split at ex
     ·cases ex
     · rename_i hno;rcases r.obj0 x ox ex with u| ⟨Lx,k1,k2⟩
       ·exact .inl u
       exact .inr ⟨Lx,k1,k2.heap fun i hi=>by simp only [bP];rw [pW (fun hh:L.blk=i=>apart ex k1 hx hno (by rw [hh];exact hi))]⟩
 · intro x y ox oy Lx Ly ex ey kx ky hbl hne;rw [aU]at ex ey;by_cases h1:x=b
   · subst h1;have h2:y≠x:=fun e=>hne e.symm;rw [if_neg h2,bX]at ey;rw [if_pos rfl]at ex;cases ex;split at ey
     ·cases ey
     · rename_i hno;rw [hE]at kx;cases kx;obtain⟨i,i1,i2⟩ :=hbl;obtain rfl:L.blk=i:=i1;exact absurd i2 (apart ey ky h2 hno)
   · rw [if_neg h1,bX]at ex;split at ex
     ·cases ex
     · rename_i hnox;by_cases h2:y=b
       · subst h2;rw [if_pos rfl]at ey;cases ey;rw [hE]at ky;cases ky;obtain⟨i,i1,i2⟩ :=hbl;obtain rfl:L.blk=i:=i2;exact absurd i1 (apart ex kx h1 hnox)
       · rw [if_neg h2,bX]at ey;split at ey
         ·cases ey
         ·exact r.kin x y ox oy Lx Ly ex ey kx ky hbl hne
 · intro x ox Lx ex kx i hi;rw [aU]at ex;by_cases h1:x=b
   · subst h1;rw [if_pos rfl]at ex;cases ex;exact r.apart x _ Lx hb kx i hi
   · rw [if_neg h1,bX]at ex;split at ex
     ·cases ex
     ·exact r.apart x ox Lx ex kx i hi
 · intro i hi hno;simp only [bP];rw [pW (hno b _ L hb hE)]
 · intro x ox Lx ex kx i hi _;rw [aU]at ex;by_cases h1:x=b
   · subst h1;rw [if_pos rfl]at ex;cases ex;rw [hE]at kx;cases kx;exact⟨x,_,L,hb,hE,hi⟩
   · rw [if_neg h1,bX]at ex;split at ex
     ·cases ex
     ·exact⟨x,ox,Lx,ex,kx,hi⟩
theorem aHy {E:Emb}{h h':Hp}{w:World}(r:Rel E h w.heap){b off:Nat}{aS:List AV}{vs:List Value}(hs:h.storeN b off aS=some h')(hv:VRs E aS vs){L:Loc}(hE:E b=some L) :
  ∃w',(∀P,(storeCells ⟨L.blk,L.sh+off,none⟩ vs).run P w= .ok () w') ∧Rel E h' w'.heap∧Ext E h w E h' w':=by
 unfold Hp.storeN at hs;split at hs
 · rename_i t n older hk;split at hs
   ·cases hs
   · rename_i old hold;cases ho:cG aS with
     |false=>rw [ho]at hs;cases hs
     | true =>
      rw [ho]at hs;simp only [cond]at hs;cases hs;obtain⟨L',g1,C,e,g2,g3,g4⟩ :=r.obj _ _ hk;rw [hE]at g1;cases g1;obtain⟨hlen,hget⟩ :=kL hold
      have hend:aS≠ [] →off+aS.length≤n∧L.sh+off+aS.length≤L.sz:=fun hne=>by
       have hpos:0<aS.length:=List.length_pos_iff.2 hne;have e1:=hget (aS.length-1) (by omega);have e2:old[aS.length-1]?=some (old[aS.length-1]'(by omega)) :=by simp
       rw [e2]at e1;obtain⟨k0,v,k1,_⟩ :=g4 _ _ e1;have:= (zq44.1 k1).1;omega
      by_cases hne:aS= []
      · subst hne;rw [hv.nil_inv];have hx:L.sh≤L.sz∨True:=.inr trivial
        have hks:∀x ox,((h.delAll older).set b (.cells (putCells t off []) n [] false)).look x=some ox→∃o0,h.look x=some o0:=fun x ox e=>by
         rw [aU]at e;split at e
         ·rename_i hx;subst hx;exact⟨_,hk⟩
         · rw [bX]at e;split at e
           ·cases e
           ·exact⟨ox,e⟩
        refine⟨w,fun P=>rfl,⟨?_,?_,fun x hx=>r.fresh x (by simpa [fU,jV]using hx),r.imm,?_,fun x ox e=>by obtain⟨o0,e0⟩ :=hks x ox e;have:=r.keys x o0 e0;simpa [fU,jV]using this⟩,⟨Emb.le.refl E,le_refl _,fun _ _ _=>rfl,?_,by simp [fU,jV],rfl,rfl,rfl,fun _ _=>rfl,fun _ _=>rfl,fun _ _ e _=>.inl e,fun x ox e _=>hks x ox e⟩⟩
        · intro x ox ex;rw [aU]at ex;split at ex
          ·rename_i hx;cases ex;subst hx;exact .inr ⟨L,hE,C,e,g2,g3,g4⟩
          · rw [bX]at ex;split at ex
            ·cases ex
            ·exact r.obj0 x ox ex
        · intro x y ox oy Lx Ly ex ey kx ky hbl hne;rw [aU]at ex ey;by_cases h1:x=b
          · subst h1;have h2:y≠x:=fun e=>hne e.symm;rw [if_neg h2,bX]at ey;rw [if_pos rfl]at ex;cases ex;split at ey
            ·cases ey
            · rename_i hno;rcases r.kin _ _ _ _ _ _ hk ey kx ky hbl hne with⟨k1,_⟩ | ⟨_,k2,_⟩
              ·exact absurd k1 hno
              ·cases k2
          · rw [if_neg h1,bX]at ex;split at ex
            ·cases ex
            · rename_i hnox;by_cases h2:y=b
              · subst h2;rw [if_pos rfl]at ey;cases ey;rcases r.kin _ _ _ _ _ _ ex hk kx ky hbl hne with⟨_,k2,_⟩ | ⟨k1,_⟩
                ·cases k2
                ·exact absurd k1 hnox
              · rw [if_neg h2,bX]at ey;split at ey
                ·cases ey
                ·exact r.kin x y ox oy Lx Ly ex ey kx ky hbl hne
        · intro x ox Lx ex kx i hi;rw [aU]at ex;by_cases h1:x=b
          · subst h1;rw [if_pos rfl]at ex;cases ex;exact r.apart x _ Lx hk kx i hi
          · rw [if_neg h1,bX]at ex;split at ex
            ·cases ex
            ·exact r.apart x ox Lx ex kx i hi
        · intro x ox Lx ex kx i hi _;rw [aU]at ex;by_cases h1:x=b
          · subst h1;rw [if_pos rfl]at ex;cases ex;exact⟨x,_,Lx,hk,kx,hi⟩
          · rw [if_neg h1,bX]at ex;split at ex
            ·cases ex
            ·exact⟨x,ox,Lx,ex,kx,hi⟩
      · have:=hend hne;exact r.write hk hE hv ho n (le_refl _) (fun _=>this.1) this.2
 ·cases hs
def DR (E:Emb) :ADef→Deferred→Prop
 | .fn f args,d=>∃cap a,d= {target:=.fn (.func f) ⟨cap⟩,args:= ⟨a⟩}∧VRs E args (a++cap)
 | .col r,d=>∃L,E r=some L∧d= {target:=.collected L.blk,args:= #[]}
theorem DR.mono {E E':Emb}(h:E.le E'){a:ADef}{d:Deferred}(r:DR E a d) :DR E' a d:=by
 cases a with
 |fn f g=>obtain⟨c,a,e,b⟩ :=r;exact⟨c,a,e,b.mono h⟩
 |col i=>obtain⟨L,e,b⟩ :=r;exact⟨L,h.1 _ _ e,b⟩
def Out (P:Program)(E:Emb)(h:Hp)(w:World)(r:Result Next) :AOut→Prop
 | .val v h'=>∃E' w' cv,(r= .ok (.value cv) w'∨ (r= .ok .skip w'∧cv=Go.undef)) ∧VR E' v cv∧Rel E' h' w'.heap∧Ext E h w E' h' w'
 | .call (.enter f args) =>∃cargs,r= .ok (.enter f ⟨cargs⟩) w∧VRs E args cargs
 | .call (.round l args) =>∃cargs L,E l=some L∧VRs E args cargs∧r= (Instr.yield L.blk ⟨cargs⟩).run P w
 | .defer d=>∃cd,r= .ok (.defer cd) w∧DR E d cd
 | .panic v=>∃cv,r= .halt (.panic cv) w∧VR E v cv
 | .recover=>r= .ok .recover w
section
variable {E :Emb} {h h':Hp} {w w':World} {v:AV} {cv:Value}
theorem aPJ (r:Rel E h w.heap){s:Sem Value}(a:s.run P w= .ok cv w)(b:VR E v cv) :
  Out P E h w ((do pure (Next.value (←s)) :Sem Next).run P w) (.val v h) :=
 ⟨E,w,cv,.inl (by simp [a]),b,r,Ext.refl E h w⟩
theorem hY {E':Emb}{s:Sem Value}(a:s.run P w= .ok cv w')(b:VR E' v cv)(r:Rel E' h' w'.heap)(x:Ext E h w E' h' w') :
  Out P E h w ((do pure (Next.value (←s)) :Sem Next).run P w) (.val v h') :=
 ⟨E',w',cv,.inl (by simp [a]),b,r,x⟩
theorem pD (E:Emb) :VR E .undef Go.undef:=by simp only [AV.undef,VR];exact⟨[],rfl,VRs.nil E⟩
theorem sR {E':Emb}{s:Sem Unit}(a:s.run P w= .ok () w')(r:Rel E' h' w'.heap)(x:Ext E h w E' h' w') :
  Out P E h w ((do s;pure Next.skip:Sem Next).run P w) (.val .undef h') :=
 ⟨E',w',Go.undef,.inr ⟨by simp [a],rfl⟩,pD E',r,x⟩
theorem aB {t:TypeId}{d:TypeDesc}(a:P.underlying t=some d) : (underlying t).run P w= .ok d w:=by
 simp [underlying,a]
theorem cD {t:TypeId}{i:TypeInfo}(a:P.info? t=some i) : (typeInfo t).run P w= .ok i w:=by
 simp [typeInfo,a]
theorem bM {t:TypeId}{n:Nat}(a:aR P t=some n) : (sizeOf t).run P w= .ok n w:=by
 unfold aR at a;cases b:P.info? t with
 |none=>rw [b]at a;cases a
 |some i=>rw [b]at a;cases a;simp [sizeOf,cD b]
theorem eX {t:TypeId}{a:AV}(hz:zeroOf P t=some a) :∃z,(∀w,(zeroValue t).run P w= .ok z w) ∧∀E,VR E a z:=by
 unfold zeroOf at hz;cases c:P.info? t with
 |none=>rw [c]at hz;cases hz
 | some i=>
  rw [c]at hz;simp only at hz;cases b:i.zero with
  |none=>rw [b]at hz;cases hz
  |some z=>rw [b]at hz;exact⟨z,fun w=>by simp [zeroValue,cD c,b],fun E=>aB4 hz E⟩
theorem nL {t:TypeId}{d:TypeDesc}(a:P.underlying t=some d) : (isAgg t).run P w= .ok (isAggD d) w:=by
 cases d<;>simp [isAgg,aB a,isAggD]
variable {tm :T AV} {ρ:Operand→Value}
def Reads (E:Emb)(tm:T AV)(ρ:Operand→Value)(S:Operand→Prop) :Prop:=∀x,S x→∀a,bG tm x=some a→VR E a (ρ x)
theorem Reads.sub {S S':Operand→Prop}(b:Reads E tm ρ S)(h:∀x,S' x→S x) :Reads E tm ρ S':=fun x d a c=>b x (h x d) a c
theorem Reads.list {S:Operand→Prop}(a:Reads E tm ρ S) :∀ {b:List Operand} {d:List AV},(∀x∈b,S x) →fJ tm b=some d→VRs E d (b.map ρ)
 | [],_,_,e=>by simp [fJ]at e;subst e;exact VRs.nil E
 | x::b,_,c,e=>by
  simp only [fJ]at e;split at e
  ·rename_i v i g f;cases e;exact VRs.cons (a _ (c _ (dJ ..)) _ g) (a.list (fun y h=>c y (dR _ h)) f)
  ·cases e
theorem Reads.parts {S:Operand→Prop}(b:Reads E tm ρ S) :∀ {a:List (Nat×Operand)} {c:List (Nat×AV)},(∀p∈a,S p.2) →wN tm a=some c →
  c.map (·.1) =a.map (·.1) ∧VRs E (c.map (·.2)) (a.map fun p=>ρ p.2)
 | [],_,_,e=>by simp [wN]at e;subst e;exact⟨rfl,VRs.nil E⟩
 | (i,x) ::a,_,d,e=>by
  simp only [wN]at e;split at e
  · rename_i v l j f;cases e;obtain⟨g,k⟩ :=b.parts (fun y h=>d y (dR _ h)) f;exact⟨by simp [g],VRs.cons (b _ (d (i,x) (dJ ..)) _ j) k⟩
  ·cases e
def aNt (P:Program)(E:Emb)(h:Hp)(w:World)(r:Result Next) :AOut→Prop
 | .val v h'=>h'=h∧∃cv,r= .ok (.value cv) w∧VR E v cv
 |_=>False
theorem aN {Q:Prop}(r:Rel E h w.heap){s:Sem Value}(a:s.run P w= .ok cv w)(b:VR E v cv) :
  Out P E h w ((do pure (Next.value (←s)) :Sem Next).run P w) (.val v h) ∧ (Q→aNt P E h w ((do pure (Next.value (←s)) :Sem Next).run P w) (.val v h)) :=
 ⟨aPJ r a b,fun _=> ⟨rfl,cv,by simp [a],b⟩⟩
theorem nq {A B Q:Prop}(a:¬Q)(hA:A) :A∧ (Q→B) := ⟨hA,fun h=>absurd h a⟩
theorem aAN (r:Rel E h w.heap){t:TypeId}{b off:Nat}{a:AV}(hl:aME P h t b off=some a){L:Loc}(hE:E b=some L) :
  ∃cv,(loadVar t ⟨L.blk,L.sh+off,none⟩).run P w= .ok cv w∧VR E a cv:=by
 unfold aME at hl;split at hl
 ·cases hl
 · rename_i d hd;cases c:isAggD d with
   | true=>
    rw [c]at hl;simp only [cond]at hl;split at hl
    ·cases hl
    · rename_i n j;split at hl
      · rename_i k f;cases hl;obtain⟨i,g,e,_⟩ :=aB5 r f hE;exact⟨.agg ⟨i⟩,by simp [loadVar,nL hd,c,bM j,g P],by simp only [VR];exact⟨i,rfl,e⟩⟩
      ·cases hl
   | false=>
    rw [c]at hl;simp only [cond]at hl;obtain⟨v,g,e⟩ :=aKg r hl hE;exact⟨v,by simp [loadVar,nL hd,c,g],e⟩
theorem aFA (r:Rel E h w.heap){t:TypeId}{b off:Nat}{a:AV}(c:aJ7 P h t b off a=some h'){L:Loc}(hE:E b=some L)(f:VR E a cv) :
  ∃w',(storeVar t ⟨L.blk,L.sh+off,none⟩ cv).run P w= .ok () w'∧Rel E h' w'.heap∧Ext E h w E h' w':=by
 unfold aJ7 at c;split at c
 ·cases c
 · rename_i n i;cases hc:beq a.cells.length n with
   |false=>rw [hc]at c;cases c
   | true=>
    rw [hc]at c;simp only [cond]at c;have d:=eP hc;obtain⟨w',k,g,j⟩ :=aHy r c f.cells hE;have e:cv.cells.size=n:=by rw [←d,←f.cells.length];simp
    exact⟨w',by simp [storeVar,bM i,e,k P],g,j⟩
theorem sS {E':Emb}{j:Array Obj}{b:Nat}{f:List AV}{g:List Value}{C:Array Value}{e:TypeId}(hC:∃c,C.toList=g++c)(h:VRs E' f g)(m:j[b]?=some (.cells C e (0,0)))(t:T AV)(p:∀i,t.at i=if i<f.length then f[i]? else none)(n:Nat)(r:f.length≤n)(k:List Nat)(s:Bool) :
  OR E' j ⟨b,0,C.size⟩ (.cells t n k s) :=by
 refine⟨C,e,m,rfl,fun i a d=>?_⟩;rw [p]at d;split at d
 · rename_i o;obtain⟨v,q,l⟩ :=h.get _ _ d;obtain⟨c,hr⟩ :=hC;refine⟨by omega,v,?_,l⟩;simp only [jS];rw [←oZ,hr,wL (by rw [h.length];exact o)];exact q
 ·cases d
theorem aX (a:List AV)(i:Nat) : (putCells .leaf 0 a).at i=if i<a.length then a[i]? else none:=by
 rw [sO,T.at_leaf];by_cases h:i<a.length
 ·rw [if_pos (by omega),if_pos h];simp
 ·rw [if_neg (by omega),if_neg h]
theorem sT (r:Rel E h w.heap){b:List AV}{a:List Value}(f:VRs E b a)(e:TypeId)(rest:List Value) :
  Rel (E.put h.nb ⟨w.heap.size,0,(a++rest).length⟩) (h.newCells b) (w.heap.push (.cells ⟨a++rest⟩ e)) ∧
   Ext E h w (E.put h.nb ⟨w.heap.size,0,(a++rest).length⟩) (h.newCells b) {w with heap:=w.heap.push (.cells ⟨a++rest⟩ e)}:=
 r.new _ (.cells ⟨a++rest⟩ e) _ (fun _ _ c _ d=>sS (C:= ⟨a++rest⟩) ⟨rest,rfl⟩ (f.mono c) d _ (aX b) _ (le_refl _) _ _)
theorem iD (r:Rel E h w.heap){b:List AV}{a:List Value}(c:VRs E b a)(e:TypeId) :
  Rel (E.put h.nb ⟨w.heap.size,0,a.length⟩) (h.newCells b) (w.heap.push (.cells ⟨a⟩ e)) ∧
   Ext E h w (E.put h.nb ⟨w.heap.size,0,a.length⟩) (h.newCells b) {w with heap:=w.heap.push (.cells ⟨a⟩ e)}:=by
 have:=sT r c e [];simpa using this
theorem uS (w:World)(h:Hp)(n:Nat) :VR (E.put h.nb ⟨w.heap.size,0,n⟩) (.ptr h.nb 0) (.pointer (some ⟨w.heap.size,0,none⟩)) :=by
 simp only [VR];exact⟨_,Emb.put_same _ _ _,rfl⟩
theorem nM (w:World)(h:Hp)(n l c e cap:Nat)(x:Bool)(d:l≤c)(h2:c≤cap)(b:x=true→cap=c)(a:cap*e≤n) :
  VR (E.put h.nb ⟨w.heap.size,0,n⟩) (.slice h.nb 0 l c e x) (.slice (some ⟨w.heap.size,0,none⟩) l cap) :=by
 simp only [VR];exact⟨_,0,cap,Emb.put_same _ _ _,rfl,d,h2,b,fun _=>rfl,by simpa using a⟩
theorem aAd (k:IntKind)(n:Int) : (asInt (.int k n)).run P w= .ok n w:=by simp [asInt,asIntOf]
theorem aFB {op:BinOp}{k:IntKind}{a b:Int}{v:AV}(c:aJ8 op k a b=some v)(t:TypeId)(d:op≠ .shl)(hr:op≠ .shr) :
  ∃cv,(binOp op t (.int k a) (.int k b)).run P w= .ok cv w∧VR E v cv:=by
 unfold aJ8 at c
 cases op<;>simp only at c<;>first
  | (cases c;refine⟨_,by simp [binOp,Op.intArith,Op.intCmp,Op.intBits];rfl,by simp [VR,vR]⟩)
  | (split at c
     ·cases c
     ·rename_i hb;cases c;refine⟨_,by simp [binOp,Op.intDiv,hb];rfl,by simp [VR,vR]⟩)
  | (exact absurd rfl d) | (exact absurd rfl hr) | (cases c)
end
end
end
end Go.Hb
