/- A machine on abstract values, its soundness, ways, plain laws. -/
import GoSem.Dispatch
import GoSem.Step
import Derived.Calls
import Derived.Laws.Sem
import Derived.Laws.NewBlocks
set_option linter.defProp false
set_option linter.unusedVariables false
set_option linter.unusedSimpArgs false
set_option linter.unusedSectionVars false
set_option maxRecDepth 100000
namespace Go.Hb
open Nat (beq ble blt div le_refl le_trans lor lt_irrefl lt_of_lt_of_le mod mod_mul mul_assoc mul_comm pow pow_succ testBit)
noncomputable section
inductive T (α:Type) where
 |leaf
 |node (l:T α) (v:Option α) (r:T α)
 deriving Inhabited
noncomputable def T.get {α:Type}(t:T α) :Nat→Option α:=
 T.rec (fun _=>none) (fun _ v _ gl gr k=>bif beq k (nat_lit 1)then v else bif beq (mod k (nat_lit 2)) (nat_lit 0)then gl (div k (nat_lit 2))else gr (div k (nat_lit 2))) t
noncomputable def T.setF {α:Type}(x:Option α)(f:Nat) :Nat→T α→T α:=
 Nat.rec (fun _ t=>t) (fun _ ih k t=>T.casesOn t
  (bif beq k (nat_lit 1)then .node .leaf x .leaf else bif beq (mod k (nat_lit 2)) (nat_lit 0)then .node (ih (div k (nat_lit 2)) .leaf) none .leaf else .node .leaf none (ih (div k (nat_lit 2)) .leaf))
  (fun l v r=>bif beq k (nat_lit 1)then .node l x r else bif beq (mod k (nat_lit 2)) (nat_lit 0)then .node (ih (div k (nat_lit 2)) l) v r else .node l v (ih (div k (nat_lit 2)) r))) f
noncomputable def T.mk {α:Type}(l:T α)(v:Option α)(r:T α) :T α:=
 T.casesOn l (Option.casesOn v (T.casesOn r .leaf (fun _ _ _=>.node l v r)) (fun _=>.node l v r)) (fun _ _ _=>.node l v r)
noncomputable def T.delF {α:Type}(f:Nat) :Nat→T α→T α:=
 Nat.rec (fun _ t=>t) (fun _ ih k t=>T.casesOn t .leaf
  (fun l v r=>bif beq k (nat_lit 1)then T.mk l none r else bif beq (mod k (nat_lit 2)) (nat_lit 0)then T.mk (ih (div k (nat_lit 2)) l) v r else T.mk l v (ih (div k (nat_lit 2)) r))) f
def T.at {α:Type}(t:T α)(k:Nat) :Option α:=t.get (Nat.succ k)
def T.put {α:Type}(t:T α)(k:Nat)(x:α) :T α:=T.setF (some x) (Nat.succ (Nat.succ k)) (Nat.succ k) t
def T.del {α:Type}(t:T α)(k:Nat) :T α:=T.delF (Nat.succ (Nat.succ k)) (Nat.succ k) t
inductive AV where
 |bool (b:Bool)
 |int (k:IntKind) (n:Int)
 |str (len n:Nat)
 |ptr (b off:Nat)
 |nilp
 |slice (b off len cap esz:Nat) (exact:Bool)
 |nils
 |map (r:Nat)
 |nilm
 |func (f:Nat) (first cap:List AV)
 |yield (l:Nat)
 |meth (name:String) (recv:AV)
 |via (t f:Nat) (pr:Bool) (recv:AV)
 |nilf
 |iface (t:Nat) (v:AV)
 |nili
 |agg (vs:List AV)
 |tup (vs:List AV)
 |ilst (e:Nat) (xs:List AV) (ex:Bool)
 |iptr (cs:List AV)
 |gl (b e off len:Nat) (ex:Bool)
 |ep (b e i o:Nat)
 |val (v:Value)
 deriving Inhabited
def AV.undef :AV:=.tup []
def AV.cells :AV→List AV
 | .agg vs=>vs
 | .val v=>v.cells.toList.map .val
 |v=>[v]
def AV.one :AV→Bool
 | .agg _| .tup _=>false
 | .val v=>match v with
  | .slice .. =>true
  | .pointer _=>true
  |_=>false
 |_=>true
def aC :List UInt8→Nat
 | [] =>0
 |b::bs=>b.toNat+256*aC bs
def aN :Nat→Nat→List UInt8
 |0,_=>[]
 |l+1,n=>UInt8.ofNat (n % 256) ::aN l (n / 256)
def aDP :Value→Option AV
 | .bool b=>some (.bool b)
 | .int k n=>some (.int k n)
 | .string s=>some (.str s.data.size (aC s.data.toList))
 | .pointer none=>some .nilp
 | .slice none 0 0=>some .nils
 | .map none=>some .nilm
 | .func (.func f) ⟨[]⟩ ⟨[]⟩ =>some (.func f [] [])
 | .nilFunc=>some .nilf
 | .nilIface=>some .nili
 |_=>none
def aAw :List Value→Option (List AV)
 | [] =>some []
 | v::vs=>match aDP v,aAw vs with
  |some a,some aS=>some (a::aS)
  |_,_=>none
def aPD :Value→Option AV
 | .agg vs=>match aAw vs.toList with
  |some l=>some (.agg l)
  |none=>none
 | .tuple ⟨[]⟩ =>some .undef
 | .iface t v=>match aDP v with
  |some a=>some (.iface t a)
  |none=>none
 |v=>aDP v
inductive ADef where
 |fn (f:Nat) (args:List AV)
 |col (r:Nat)
 deriving Inhabited
inductive AObj where
 |cells (t:T AV) (n:Nat) (older:List Nat) (sup:Bool)
 |map (es:List (AV×AV×Nat)) (clock:Nat)
 |siter (len n pos:Nat)
 |loop (st:LoopState) (pending:Option Code) (fn:Nat) (tm:T AV) (nt:Nat) (params:List Nat) (assign body:Code) (defers:Nat)
 |defd (taken:Bool)
 |lst (e:Nat) (xs:List AV)
 |lstv (u:Value) (e:Nat) (xs:List AV)
 |miter (m since:Nat) (seen:List Nat) (last:Nat)
 |mapx (es:List (AV×AV×Nat)) (clock:Nat) (k v:AV)
 |zone (own:Bool) (rs:List Nat) (Z:List Nat→List (Nat×Nat×Nat) → (Nat→Option (Array Value)) →Array Obj→Prop)
 deriving Inhabited
structure Hp where
 t:T AObj
 nb:Nat
 deriving Inhabited
def Hp.look (h:Hp)(b:Nat) :Option AObj:=h.t.at b
def Hp.set (h:Hp)(b:Nat)(o:AObj) :Hp:={h with t:=h.t.put b o}
def Hp.del (h:Hp)(b:Nat) :Hp:={h with t:=h.t.del b}
def Hp.delAll (h:Hp) :List Nat→Hp
 | [] =>h
 |b::bs=> (h.del b).delAll bs
def Hp.new (h:Hp)(o:AObj) :Hp:= ⟨h.t.put h.nb o,Nat.succ h.nb⟩
def putCells :T AV→Nat→List AV→T AV
 |t,_,[] =>t
 |t,i,v::vs=>putCells (t.put i v) (Nat.succ i) vs
def getCells (t:T AV) :Nat→Nat→Option (List AV)
 |_,0=>some []
 | i,n+1=>match t.at i with
  |none=>none
  | some v=>match getCells t (Nat.succ i) n with
   |none=>none
   |some vs=>some (v::vs)
def Hp.newCells (h:Hp)(vs:List AV) :Hp:=h.new (.cells (putCells .leaf 0 vs) vs.length [] false)
def Hp.load1 (h:Hp)(b off:Nat) :Option AV:=
 match h.look b with
 |some (.cells t _ _ _) =>t.at off
 |_=>none
def Hp.loadN (h:Hp)(b off n:Nat) :Option (List AV) :=
 match h.look b with
 |some (.cells t _ _ _) =>getCells t off n
 |_=>none
def cJ :List AV→Bool
 | [] =>true
 |v::vs=>v.one&&cJ vs
def Hp.storeN (h:Hp)(b off:Nat)(vs:List AV) :Option Hp:=
 match h.look b with
 | some (.cells t n older false) =>
  match getCells t off vs.length with
  |none=>none
  |some _=>bif cJ vs then some ((h.delAll older).set b (.cells (putCells t off vs) n [] false))else none
 |_=>none
def isAggD :TypeDesc→Bool
 | .struct _| .array _ _=>true
 |_=>false
def zeroOf (P:Program)(t:TypeId) :Option AV:=
 match P.info? t with
 | some i=>match i.zero with
  |some v=>aPD v
  |none=>none
 |none=>none
def aW (P:Program)(t:TypeId) :Option Nat:= (P.info? t).map (·.size)
def aPE (P:Program)(h:Hp)(t:TypeId)(b off:Nat) :Option AV:=
 match P.underlying t with
 |none=>none
 | some d=>bif isAggD d then
   match aW P t with
   |none=>none
   | some n=>match h.loadN b off n with
    |some vs=>some (.agg vs)
    |none=>none
  else h.load1 b off
def aMB (P:Program)(h:Hp)(t:TypeId)(b off:Nat)(v:AV) :Option Hp:=
 match aW P t with
 |none=>none
 |some n=>bif beq v.cells.length n then h.storeN b off v.cells else none
def i64 (n:Int) :Bool:=decide (-9223372036854775808≤n) &&decide (n≤9223372036854775807)
def yS (k:IntKind)(n:Int) :Int:=k.wrap n
def iZ (l n l' n':Nat) :Bool:=beq l l'&&beq (mod n (pow 256 l)) (mod n' (pow 256 l'))
def aMC (op:BinOp)(k:IntKind)(a b:Int) :Option AV:=
 match op with
 | .add=>some (.int k (yS k (a+b)))
 | .sub=>some (.int k (yS k (a-b)))
 | .mul=>some (.int k (yS k (a*b)))
 | .quo=>if b=0 then none else some (.int k (yS k (a.tdiv b)))
 | .rem=>if b=0 then none else some (.int k (a.tmod b))
 | .eql=>some (.bool (a==b))
 | .neq=>some (.bool (a != b))
 | .lss=>some (.bool (a<b))
 | .leq=>some (.bool (a≤b))
 | .gtr=>some (.bool (a>b))
 | .geq=>some (.bool (a≥b))
 | .and=>some (.int k (k.wrap (BitVec.ofInt k.bits a &&& BitVec.ofInt k.bits b).toNat))
 | .xor=>some (.int k (k.wrap (BitVec.ofInt k.bits a ^^^ BitVec.ofInt k.bits b).toNat))
 |_=>none
def aMD (op:BinOp)(l n l' n':Nat) :Option AV:=
 match op with
 | .add=>bif ble (l+l') 1000000000 then some (.str (l+l') (mod n (pow 256 l) +pow 256 l*n'))else none
 | .eql=>some (.bool (iZ l n l' n'))
 | .neq=>some (.bool (!iZ l n l' n'))
 | .lss=>some (.bool (Op.bytesLess (aN l n) (aN l' n')))
 | .geq=>some (.bool (!Op.bytesLess (aN l n) (aN l' n')))
 |_=>none
def oD :AV→AV→Option Bool
 | .int k a,.int k' b=>if k=k' then some (a==b)else none
 | .bool a,.bool b=>some (a==b)
 | .str l n,.str l' n'=>some (iZ l n l' n')
 |_,_=>none
def aeq (P:Program)(t:TypeId)(x y:AV) :Option Bool:=
 match P.underlying t,x,y with
 |some .bool,.bool a,.bool b=>some (a==b)
 |some (.pointer _),.nilp,.nilp=>some true
 |some (.pointer _),.nilp,.ptr _ _=>some false
 |some (.pointer _),.ptr _ _,.nilp=>some false
 |some (.interface _),.nili,.iface _ _=>some false
 |some (.interface _),.iface _ _,.nili=>some false
 |some (.func _ _ _),.nilf,.nilf=>some true
 |some (.func _ _ _),.nilf,.func _ _ _=>some false
 |some (.func _ _ _),.func _ _ _,.nilf=>some false
 |some (.slice _),.nils,.nils=>some true
 |some (.slice _),.nils,.slice .. =>some false
 |some (.slice _),.slice ..,.nils=>some false
 |some (.slice _),.val (.slice (some _) _ _),.nils=>some false
 |some (.slice _),.gl _ _ _ (_+1) _,.nils=>some false
 |_,_,_=>none
def aYO (P:Program)(op:BinOp)(t:TypeId)(x y:AV)(litx lity:Bool) :Option AV:=
 match x,y with
 | .int k a,.int k' b=>
  match op with
  | .shl=>if b<0 then none else some (.int k (k.wrap (a*2 ^ min b.toNat k.bits)))
  | .shr=>if b<0 then none else some (.int k (a.fdiv (2 ^ min b.toNat k.bits)))
  |_=>if k=k' then aMC op k a b else none
 | .str l n,.str l' n'=>aMD op l n l' n'
 | .nili,.nili=>
  bif litx||lity then
   match P.underlying t,op with
   |some (.interface _),.eql=>some (.bool true)
   |some (.interface _),.neq=>some (.bool false)
   |_,_=>none
  else none
 | _,_=>
  match op,aeq P t x y with
  | .eql,some b=>some (.bool b)
  | .neq,some b=>some (.bool (!b))
  |_,_=>none
def aun (op:UnOp)(x:AV) :Option AV:=
 match op,x with
 | .neg,.int k n=>some (.int k (yS k (0-n)))
 | .not,.bool b=>some (.bool (!b))
 |_,_=>none
def aC8 :List AV→Option Nat
 | [] =>some 0
 | .int .u8 n::vs=>if 0≤n∧n<256 then(match aC8 vs with
  |some m=>some (n.toNat+256*m)
  |none=>none)else none
 |_=>none
def qW (vs:List AV) :Option AV:=
 match aC8 vs with
 |some n=>some (.str vs.length n)
 |none=>none
def uM (P:Program)(h:Hp)(src dst:TypeId)(x:AV) :Option AV:=
 match P.underlying src,P.underlying dst,x with
 |some (.int _),some (.int k),.int _ n=>some (.int k (yS k n))
 |some (.int _),some .string,.int _ n=>if 0≤n∧n<128 then some (.str 1 n.toNat)else none
 |some .string,some .string,.str l n=>some (.str l n)
 | some (.slice e),some .string,.slice b off len _ _ _=>
  match P.underlying e,h.loadN b off len with
  |some (.int .u8),some vs=>qW vs
  |_,_=>none
 |_,_,_=>none
def gU (i:AV)(len:Nat) :Option Nat:=
 match i with
 | .int _ n=>if 0≤n∧n<len then some n.toNat else none
 |_=>none
def fG (x:Option AV) :Option (Option Nat) :=
 match x with
 |none=>some none
 |some (.int _ n) =>if 0≤n then some (some n.toNat)else none
 |some _=>none
def rV (P:Program)(t:TypeId)(x:AV)(lo hi mx:Option Nat) :Option AV:=
 match P.underlying t,x with
 | some .string,.str len n=>
  match mx with
  |some _=>none
  | none=>
   let l:=lo.getD 0
   let h:=hi.getD len
   bif ble l h&&ble h len then some (.str (h-l) (div n (pow 256 l)))else none
 | some (.slice e),.slice b off len cap esz exact=>
  let l:=lo.getD 0
  let h:=hi.getD len
  match aW P e with
  |none=>none
  | some sz=>bif beq sz esz&&ble l h&&ble h cap then
   match mx,hi with
   |some m,some _=>bif ble h m&&ble m cap then some (.slice b (off+l*esz) (h-l) (m-l) esz true)else none
   |some _,none=>none
   |none,_=>some (.slice b (off+l*esz) (h-l) (cap-l) esz exact)
   else none
 | some (.slice e),.nils=>
  match mx,hi,aW P e with
  |some _,none,_=>none
  |_,_,none=>none
  |_,_,some _=>bif beq (lo.getD 0) 0&&beq (hi.getD 0) 0&&beq (mx.getD 0) 0 then some .nils else none
 |_,_=>none
def gV (place:Nat→Option (Nat×Nat))(cells:List AV) :List (Nat×AV) →Option (List AV)
 | [] =>some cells
 | (i,v) ::rest=>
  match place i with
  |none=>none
  | some (off,size) =>
   bif beq v.cells.length size&&ble (off+size) cells.length then
    gV place (cells.take off++v.cells++cells.drop (off+size)) rest
   else none
def aME (P:Program)(t:TypeId)(parts:List (Nat×AV)) :Option AV:=
 match zeroOf P t,P.underlying t with
 | some z,some (.struct fs) =>
  match gV (fun i=>match fs[i]? with
   | some f=>match aW P f.type with
    |some s=>some (f.offset,s)
    |none=>none
   |none=>none) z.cells parts with
  |some cs=>bif fs.all (fun f=> (aW P f.type).isSome)then some (.agg cs)else none
  |none=>none
 | some z,some (.array _ e) =>
  match aW P e with
  |none=>none
  | some s=>match gV (fun i=>some (i*s,s)) z.cells parts with
   |some cs=>some (.agg cs)
   |none=>none
 |_,_=>none
def kO (cs:List AV) :Nat→List AV
 |0=>[]
 |n+1=>cs++kO cs n
def pM (P:Program)(t:TypeId)(len:Nat)(parts:List (Nat×AV)) :Option (List AV×Nat) :=
 match P.underlying t with
 | some (.slice e) =>
  match aW P e,zeroOf P e with
  | some s,some z=>
   bif ble (len*s) 1000&& !(beq s 0) &&beq z.cells.length s then
   match gV (fun i=>some (i*s,s)) (kO z.cells len) parts with
   |some cs=>some (cs,s)
   |none=>none else none
  |_,_=>none
 |_=>none
def oG (k:AV) :List (AV×AV×Nat) →Nat→Option (Option (Nat×AV))
 | [],_=>some none
 | e::es,i=>match oD k e.1 with
  |some true=>some (some (i,e.2.1))
  |some false=>oG k es (Nat.succ i)
  |none=>none
def plainKey :TypeDesc→AV→Bool
 | .int _,.int _ _=>true
 | .string,.str _ _=>true
 | .bool,.bool _=>true
 |_,_=>false
def setE (key val:AV) :List (AV×AV×Nat) →Nat→List (AV×AV×Nat)
 | [],_=>[]
 |e::es,0=> (key,val,e.2.2) ::es
 |e::es,i+1=>e::setE key val es i
def aDQ :List (AV×AV×Nat) →Nat→Nat
 | [],_=>0
 |e::_,0=>e.2.2
 |_::es,i+1=>aDQ es i
def wP (val:AV)(born:Nat) :List (AV×AV×Nat) →Option (List (AV×AV×Nat))
 | [] =>none
 | e::es=>bif beq e.2.2 born then some ((e.1,val,e.2.2) ::es)else match wP val born es with
  |some r=>some (e::r)
  |none=>none
def aC9 (P:Program)(h:Hp)(t:TypeId)(x k:AV)(ok:Bool) :Option AV:=
 match P.underlying t with
 | some (.map kt et) =>
  match P.underlying kt,zeroOf P et with
  | some kd,some z=>
   bif plainKey kd k then
    let done (r:Option AV) :AV:=match r with
     |some v=>if ok then .tup [v,.bool true]else v
     |none=>if ok then .tup [z,.bool false]else z
    match x with
    | .nilm=>some (done none)
    | .map r=>match h.look r with
     | some (.map es _) =>match oG k es 0 with
      |some (some (_,v)) =>some (done (some v))
      |some none=>some (done none)
      |none=>none
     |_=>none
    |_=>none
   else none
  |_,_=>none
 |_=>none
def oH (P:Program)(h:Hp)(t:TypeId)(x k v:AV) :Option Hp:=
 match P.underlying t,x with
 | some (.map kt _),.map r=>
  match P.underlying kt,h.look r with
  | some kd,some (.map es clock) =>
   bif plainKey kd k then
    match oG k es 0 with
    |some (some (i,_)) =>some (h.set r (.map (setE k v es i) clock))
    |some none=>some (h.set r (.map (es++ [(k,v,clock)]) (Nat.succ clock)))
    |none=>none
   else none
  |_,_=>none
 |_,_=>none
def wQ (P:Program)(h:Hp)(t:TypeId)(x k:AV) :Option (AV×Hp) :=
 match P.underlying t,x with
 | some (.map kt et),.map r=>
  match P.underlying kt,h.look r,zeroOf P et with
  | some kd,some (.map es clock),some z=>
   bif plainKey kd k then
    match oG k es 0 with
    |some (some (i,v)) =>some (.tup [v,.int .i64 (aDQ es i)],h.set r (.map (setE k v es i) clock))
    |some none=>some (.tup [z,.int .i64 clock],h.set r (.map (es++ [(k,z,clock)]) (Nat.succ clock)))
    |none=>none
   else none
  |_,_,_=>none
 |_,_=>none
def pN (h:Hp)(x st v:AV) :Option Hp:=
 match x,st with
 | .map r,.int _ n=>
  if 0≤n then
  match h.look r with
  | some (.map es clock) =>match wP v n.toNat es with
   |some es'=>some (h.set r (.map es' clock))
   |none=>none
  |_=>none else none
 |_,_=>none
def aAx (P:Program)(h:Hp)(argTypes:Array TypeId)(e:TypeId)(sz:Nat)(x:AV) :Option (List AV×Nat) :=
 match argTypes[1]? with
 |none=>none
 | some xt=>match P.underlying xt,x with
  | some (.int _),.int .i64 n=>
   if 0≤n∧n<100000 then
    match zeroOf P e with
    |some z=>bif beq z.cells.length sz&& !(beq sz 0)then some (kO z.cells n.toNat,n.toNat)else none
    |none=>none
   else none
  |some (.int _),_=>none
  |some _,.nils=>some ([],0)
  | some _,.slice b off len _ esz _=>bif beq esz sz then match h.loadN b off (len*sz)with
   |some vs=>some (vs,len)
   |none=>none else none
  |_,_=>none
def aF8 (h:Hp)(b off:Nat)(vs:List AV) :Option Hp:=
 match h.look b with
 | some (.cells t n older false) =>
  some ((h.delAll older).set b (.cells (putCells t off vs) (max n (off+vs.length)) [] false))
 |_=>none
def aappend (P:Program)(h:Hp)(argTypes:Array TypeId)(s x:AV) :Option (AV×Hp) :=
 match argTypes[0]? with
 |none=>none
 | some st =>match P.underlying st with
  | some (.slice e) =>
   match aW P e,P.info? e,zeroOf P e with
   | some sz,some inf,some z=>
    match aAx P h argTypes e sz x with
    |none=>none
    | some (vs,n) =>
     bif beq z.cells.length sz&&ble sz 40&&ble inf.bytes 1000&&ble 1 inf.bytes&&ble 1 sz&&cJ vs&&ble n 1000000 then
     match s with
     | .nils=>bif beq n 0 then some (.nils,h)else some (.slice h.nb 0 n n sz false,h.newCells vs)
     | .slice b off len cap esz exact=>
      bif beq esz sz&&ble len 1000000&&ble cap 1000000 then
       bif ble (len+n) cap then
        (bif beq n 0 then some (.slice b off len cap esz exact,h)else
        match aF8 h b (off+len*sz) vs with
        |some h'=>some (.slice b off (len+n) cap esz exact,h')
        |none=>none)
       else match h.loadN b off (len*sz)with
        |none=>none
        | some old=>bif exact then some (.slice h.nb 0 (len+n) (len+n) sz false,h.newCells (old++vs))else
         match h.look b with
         | some (.cells t k older false) =>
          bif ble k (off+len*sz)then
           some (.slice h.nb 0 (len+n) (len+n) sz false,
            (h.set b (.cells t k older true)).new (.cells (bif beq off 0 then putCells t (len*sz) vs else putCells .leaf 0 (old++vs)) (old.length+vs.length) (b::older) false))
          else none
         |_=>none
      else none
     |_=>none
     else none
   |_,_,_=>none
  |_=>none
mutual
def AV.same :AV→AV→Bool
 | .bool a,.bool b=>a==b
 | .int k n,.int k' n'=>decide (k=k') &&decide (n=n')
 | .str l n,.str l' n'=>beq l l'&&beq n n'
 | .ptr b o,.ptr b' o'=>beq b b'&&beq o o'
 | .nilp,.nilp=>true
 | .slice b o l c e x,.slice b' o' l' c' e' x'=>beq b b'&&beq o o'&&beq l l'&&beq c c'&&beq e e'&&x==x'
 | .nils,.nils=>true
 | .map r,.map r'=>beq r r'
 | .nilm,.nilm=>true
 | .func f fs cs,.func f' fs' cs'=>beq f f'&&AV.sameL fs fs'&&AV.sameL cs cs'
 | .yield l,.yield l'=>beq l l'
 | .nilf,.nilf=>true
 | .iface t v,.iface t' v'=>beq t t'&&AV.same v v'
 | .nili,.nili=>true
 | .agg vs,.agg vs'=>AV.sameL vs vs'
 | .tup vs,.tup vs'=>AV.sameL vs vs'
 | .ilst e xs x,.ilst e' xs' x'=>beq e e'&&AV.sameL xs xs'&&x==x'
 | .iptr cs,.iptr cs'=>AV.sameL cs cs'
 | .gl b e o l x,.gl b' e' o' l' x'=>beq b b'&&beq e e'&&beq o o'&&beq l l'&&x==x'
 | .ep b e i o,.ep b' e' i' o'=>beq b b'&&beq e e'&&beq i i'&&beq o o'
 |_,_=>false
def AV.sameL :List AV→List AV→Bool
 | [],[] =>true
 |a::aS,b::bs=>AV.same a b&&AV.sameL aS bs
 |_,_=>false
end
inductive AItem where
 |code (c:Code)
 |inBlock (id:Nat)
 |inLoop (c:Code)
 |inScope (c:Code)
 |ops (all:Array Oper) (i:Nat) (rest:List Oper)
 |inRF (l:Nat)
 |endRF (l:Nat)
 |beginRound
 |junk
 deriving Inhabited
inductive AMode where
 |run
 |ret
 |pan (chain:List (AV×Bool))
 deriving Inhabited
structure AFrame where
 fn:Nat
 tm:T AV
 nt:Nat
 todo:List AItem
 defers:List ADef
 mode:AMode
 kind:CallKind
 roundOf:Option Nat
 deriving Inhabited
structure AS where
 fr:AFrame
 cs:List AFrame
 h:Hp
 deriving Inhabited
inductive AIn where
 |enter (f:Nat) (args:List AV)
 |round (l:Nat) (args:List AV)
inductive AOut where
 |val (v:AV) (h:Hp)
 |call (c:AIn)
 |defer (d:ADef)
 |panic (v:AV)
 |recover
def bI (tm:T AV) :Operand→Option AV
 | .tmp t=>tm.at t
 | .const v=>aPD v
 | .global _=>none
 | .func f=>some (.func f [] [])
def fS (tm:T AV) :List Operand→Option (List AV)
 | [] =>some []
 | x::xs=>match bI tm x,fS tm xs with
  |some v,some vs=>some (v::vs)
  |_,_=>none
def oI (tm:T AV) :Option Operand→Option (Option AV)
 |none=>some none
 | some x=>match bI tm x with
  |some v=>some (some v)
  |none=>none
def zM (tm:T AV) :List (Nat×Operand) →Option (List (Nat×AV))
 | [] =>some []
 | (i,x) ::xs=>match bI tm x,zM tm xs with
  |some v,some vs=>some ((i,v) ::vs)
  |_,_=>none
def isLit :Operand→Bool
 | .const _=>true
 |_=>false
def eH (P:Program)(f:Nat) :Bool:=
 match P.funcs[f]? with
 |some fn=>fn.body.isSome&& !(fn.name== "runtime.NumGoroutine")
 |none=>false
def oJ (P:Program)(t:TypeId)(name:String) :Option Nat:=
 match P.info? t with
 |none=>none
 | some i=>match i.methods.find? (·.name==name)with
  |none=>none
  | some m=>match m.path.toList,m.func,P.underlying t with
   | [],some (f,true),some (.pointer _) =>some f
   | [],some (_,false),some (.pointer _) =>none
   | [],some (f,false),some _=>some f
   |_,_,_=>none
def zN (P:Program)(f:Nat)(args:List AV) :Option AOut:=
 bif eH P f then some (.call (.enter f args))else none
def aDa (P:Program)(recv:AV)(name:String)(args:List AV) :Option AOut:=
 match recv with
 | .iface t v=>match oJ P t name with
  |some f=>zN P f (v::args)
  |none=>none
 |_=>none
def uN (P:Program)(f:AV)(args:List AV) :Option AOut:=
 match f with
 | .func f first cap=>zN P f (first++args++cap)
 | .yield l=>some (.call (.round l args))
 | .meth name recv=>aDa P recv name args
 | .via t f pr recv=>match P.underlying t,pr with
  |some (.pointer _),true=>zN P f (recv::args)
  |some (.pointer _),false=>none
  |some _,false=>zN P f (recv::args)
  |_,_=>none
 |_=>none
def aYP (P:Program)(h:Hp)(t:TypeId)(x:AV) :Option AV:=
 match P.underlying t,x with
 |some .string,.str l _=>some (.int .i64 l)
 |some (.array n _),_=>some (.int .i64 n)
 |some (.slice _),.slice _ _ l _ _ _=>some (.int .i64 l)
 |some (.slice _),.nils=>some (.int .i64 0)
 |some (.map _ _),.nilm=>some (.int .i64 0)
 | some (.map _ _),.map r=>match h.look r with
  |some (.map es _) =>some (.int .i64 es.length)
  |_=>none
 |_,_=>none
def bCZ (P:Program)(t:TypeId)(x:AV) :Option AV:=
 match P.underlying t,x with
 |some (.slice _),.slice _ _ _ c _ true=>some (.int .i64 c)
 |some (.slice _),.nils=>some (.int .i64 0)
 |_,_=>none
def eI (P:Program)(h:Hp)(b:Builtin)(argTypes:Array TypeId)(args:List AV) :Option AOut:=
 match b,args with
 | .len,[x] =>match argTypes[0]? with
  | some t=>match aYP P h t x with
   |some v=>some (.val v h)
   |none=>none
  |none=>none
 | .cap,[x] =>match argTypes[0]? with
  | some t=>match bCZ P t x with
   |some v=>some (.val v h)
   |none=>none
  |none=>none
 | .append,[s,x] =>match aappend P h argTypes s x with
  |some (v,h') =>some (.val v h')
  |none=>none
 | .max,[.int k a,.int _ b] =>some (.val (.int k (if b>a then b else a)) h)
 | .min,[.int k a,.int _ b] =>some (.val (.int k (if b<a then b else a)) h)
 | .panic,[.iface t v] =>some (.panic (.iface t v))
 | .recover,[] =>some .recover
 |_,_=>none
def oK (P:Program)(h:Hp)(tm:T AV)(c:Call) :Option AOut:=
 match fS tm c.args.toList with
 |none=>none
 | some args=>match c.callee with
  | .value f=>match bI tm f with
   |some fv=>uN P fv args
   |none=>none
  | .invoke r name=>match bI tm r with
   |some rv=>aDa P rv name args
   |none=>none
  | .builtin b=>eI P h b c.argTypes args
def val (v:Option AV)(h:Hp) :Option AOut:=
 match v with
 |some v=>some (.val v h)
 |none=>none
def zO (r:Option (AV×Hp)) :Option AOut:=
 match r with
 |some (v,h) =>some (.val v h)
 |none=>none
def yT (r:Option Hp) :Option AOut:=
 match r with
 |some h=>some (.val .undef h)
 |none=>none
def uI (tm:T AV)(x:Operand)(k:AV→Option AOut) :Option AOut:=
 match bI tm x with
 |some v=>k v
 |none=>none
def yU (tm:T AV)(x y:Operand)(k:AV→AV→Option AOut) :Option AOut:=
 match bI tm x with
 | some v=>match bI tm y with
  |some u=>k v u
  |none=>none
 |none=>none
def aDR (P:Program)(t:TypeId)(i:Nat) :Option Nat:=
 match P.underlying t with
 | some (.struct fs) =>match fs[i]? with
  | some f=>match aW P f.type with
   |some (_+1) =>some f.offset
   |_=>none
  |none=>none
 |_=>none
def aMF (len n pos:Nat) :Option (Nat×Nat) :=
 bif blt pos len then
  (let c:=mod (div n (pow 256 pos)) 256
  bif blt c 128 then some (c,1)else some (Utf8.decode ⟨⟨aN len n⟩⟩ pos))
 else none
def uO (P:Program)(asserted:TypeId)(ok:Bool)(a:AV) :Option AV:=
 match P.underlying asserted with
 |none=>none
 |some (.interface _) =>none
 | some _=>match a with
  | .nili=>bif ok then(match zeroOf P asserted with
    |some z=>some (.tup [z,.bool false])
    |none=>none)else none
  | .iface t v=>bif beq t asserted then some (bif ok then .tup [v,.bool true]else v)
    else bif ok then(match zeroOf P asserted with
    |some z=>some (.tup [z,.bool false])
    |none=>none)else none
  |_=>none
def zP (t:Nat) :List Nat→Bool
 | [] =>false
 |x::xs=>beq x t||zP t xs
def aHd (es:List (AV×AV×Nat))(since:Nat)(seen:List Nat) :List (Option (AV×AV×Nat)) :=
 let left:=es.filter fun e=> !(zP e.2.2 seen)
 let old:=left.filter fun e=>blt e.2.2 since
 let new:=left.filter fun e=> !(blt e.2.2 since)
 (if old.isEmpty then [none]else []) ++ (old++new).map some
def bGc (h:Hp)(r m since:Nat)(seen:List Nat)(clock:Nat) :Option (AV×AV×Nat) →AV×Hp
 |some e=> (.tup [.bool true,e.1,e.2.1],h.set r (.miter m since (seen++ [e.2.2]) clock))
 |none=> (.tup [.bool false],h)
def aF9 (h:Hp)(r:Nat) :Option (List (AV×Hp)) :=
 match h.look r with
 | some (.miter m since seen last) =>match h.look m with
  | some (.map es clock) =>
   bif !seen.isEmpty&& !es.isEmpty&&es.all (fun e=>ble last e.2.2)then none
   else some ((aHd es since seen).map (bGc h r m since seen clock))
  |_=>none
 |_=>none
def aMG (h:Hp)(r:Nat) :Option AV:=
 match h.look r with
 | some (.miter m _ seen last) =>match seen.getLast?,h.look m with
  | some stamp,some (.map es clock) =>bif beq clock last then(match es.find? (fun e=>beq e.2.2 stamp)with
   |some e=>some (.tup [e.1,e.2.1])
   |none=>none)else none
  |_,_=>none
 |_=>none
def fK (P:Program)(h:Hp)(tm:T AV)(o:Oper) :Option AOut:=
 match o.op with
 | .move x| .assign x=>val (bI tm x) h
 | .pick c a b=>match bI tm c with
  |some (.bool true) =>val (bI tm a) h
  |some (.bool false) =>val (bI tm b) h
  |_=>none
 | .alloc e=>match zeroOf P e with
  |some z=>some (.val (.ptr h.nb 0) (h.newCells z.cells))
  |none=>none
 | .box _ x=>uI tm x fun v=>some (.val (.ptr h.nb 0) (h.newCells v.cells))
 | .build t ps=>match zM tm ps.toList with
  |some l=>val (aME P t l) h
  |none=>none
 | .buildSlice t len ps=>match zM tm ps.toList with
  | some l=>match pM P t len l with
   |some (cs,s) =>some (.val (.slice h.nb 0 len len s true) (h.newCells cs))
   |none=>none
  |none=>none
 | .load t a=>uI tm a fun
  | .ptr b off=>val (aPE P h t b off) h
  |_=>none
 | .store t a x=>yU tm a x fun
  | .ptr b off,v=>yT (aMB P h t b off v)
  |_,_=>none
 | .nilCheck x=>uI tm x fun
  | .nilp=>none
  | .nili=>none
  | .nilf=>none
  | .val _=>none
  | .meth name (.iface t v) =>match oJ P t name with
   |some _=>some (.val (.meth name (.iface t v)) h)
   |none=>none
  | .meth _ _=>none
  |v=>some (.val v h)
 | .binOp op t x y _=>yU tm x y fun a b=>val (aYO P op t a b (isLit x) (isLit y)) h
 | .unOp op _ x=>uI tm x fun a=>val (aun op a) h
 | .convert s d x=>uI tm x fun a=>val (uM P h s d a) h
 | .makeInterface t x=>uI tm x fun a=>match P.underlying t with
  |some (.interface _) =>none
  |some _=>some (.val (.iface t a) h)
  |none=>none
 | .makeFunc (.func f) first cap=>match fS tm first.toList,fS tm cap.toList with
  |some fs,some cs=>some (.val (.func f fs cs) h)
  |_,_=>none
 | .makeFunc (.method name) first cap=>match fS tm first.toList with
  |some [r] =>bif cap.isEmpty then some (.val (.meth name r) h)else none
  |_=>none
 | .makeFunc (.via t path f pr) first cap=>match path.toList,fS tm first.toList with
  | [],some [r] =>bif cap.isEmpty then some (.val (.via t f pr r) h)else none
  |_,_=>none
 | .makeMap _ none=>some (.val (.map h.nb) (h.new (.map [] 0)))
 | .makeSlice t l c=>yU tm l c fun
  | .int _ l,.int _ c=>match P.underlying t with
   | some (.slice e) =>match aW P e,zeroOf P e,P.info? e with
    | some s,some z,some inf=>
     if 0≤l∧l≤c∧c<100000 then
      bif ble s 40&&ble 1 s&&beq z.cells.length s&&ble inf.bytes 1000 then
       some (.val (.slice h.nb 0 l.toNat c.toNat s true) (h.newCells (kO z.cells c.toNat)))
      else none
     else none
    |_,_,_=>none
   |_=>none
  |_,_=>none
 | .slice t x lo hi mx=>uI tm x fun a=>
  match oI tm lo,oI tm hi,oI tm mx with
  | some lo,some hi,some mx=>match fG lo,fG hi,fG mx with
   |some lo,some hi,some mx=>val (rV P t a lo hi mx) h
   |_,_,_=>none
  |_,_,_=>none
 | .fieldAddr t x f=>uI tm x fun
  | .ptr b off=>match aDR P t f with
   |some o=>some (.val (.ptr b (off+o)) h)
   |none=>none
  |_=>none
 | .field t x f=>uI tm x fun
  | .agg cs=>match P.underlying t with
   | some (.struct fs) =>match fs[f]? with
    | some f=>match P.underlying f.type,aW P f.type with
     |some d,some s=>bif isAggD d then some (.val (.agg ((cs.drop f.offset).take s)) h)else val cs[f.offset]? h
     |_,_=>none
    |none=>none
   |_=>none
  |_=>none
 | .indexAddr t x i=>yU tm x i fun a i=>
  match P.underlying t,a with
  | some (.slice e),.slice b off len _ esz _=>match gU i len,aW P e with
   |some k,some s=>bif beq s esz then some (.val (.ptr b (off+k*esz)) h)else none
   |_,_=>none
  | some (.array len e),.ptr b off=>match gU i len,aW P e with
   |some k,some s=>some (.val (.ptr b (off+k*s)) h)
   |_,_=>none
  |_,_=>none
 | .index t x i=>yU tm x i fun a i=>
  match P.underlying t,a with
  | some .string,.str l n=>match gU i l with
   |some k=>some (.val (.int .u8 (mod (div n (pow 256 k)) 256)) h)
   |none=>none
  | some (.array len e),.agg cs=>match gU i len,P.underlying e,aW P e with
   |some k,some d,some s=>bif isAggD d then some (.val (.agg ((cs.drop (k*s)).take s)) h)else val cs[k*s]? h
   |_,_,_=>none
  |_,_=>none
 | .lookup t x k ok=>yU tm x k fun a k=>val (aC9 P h t a k ok) h
 | .mapUpdate t m k x| .insert t m k x=>yU tm m k fun m k=>uI tm x fun v=>yT (oH P h t m k v)
 | .mapEntry t m k=>yU tm m k fun m k=>zO (wQ P h t m k)
 | .entryStore _ m s x=>yU tm m s fun m s=>uI tm x fun v=>yT (pN h m s v)
 | .range t x=>uI tm x fun a=>match P.underlying t,a with
  |some .string,.str l n=>some (.val (.ptr h.nb 0) (h.new (.siter l n 0)))
  | some (.map _ _),.map m=>match h.look m with
   |some (.map _ clock) =>some (.val (.ptr h.nb 0) (h.new (.miter m clock [] clock)))
   |_=>none
  |_,_=>none
 | .next it false=>uI tm it fun
  | .ptr r 0=>match aF9 h r with
   |some [(v,h')] =>some (.val v h')
   |_=>none
  |_=>none
 | .next it true=>uI tm it fun
  | .ptr r 0=>match h.look r with
   | some (.siter l n pos) =>
    bif blt pos l then match aMF l n pos with
     |some (c,d) =>some (.val (.tup [.bool true,.int .i64 pos,.int .i32 c]) (h.set r (.siter l n (Nat.add pos d))))
     |none=>none
    else some (.val (.tup [.bool false]) h)
   |_=>none
  |_=>none
 | .entry it=>uI tm it fun
  | .ptr r 0=>val (aMG h r) h
  |_=>none
 | .typeAssert x _ asserted ok=>uI tm x fun a=>val (uO P asserted ok a) h
 | .extract x i=>uI tm x fun
  | .tup vs=>val vs[i]? h
  |_=>none
 | .call c=>oK P h tm c
 | .defer c=>match fS tm c.args.toList,c.callee with
  | some args,.value f=>match bI tm f with
   |some (.func f first cap) =>bif eH P f then some (.defer (.fn f (first++args++cap)))else none
   |_=>none
  |_,_=>none
 | .panic x=>uI tm x fun
  | .iface t v=>some (.panic (.iface t v))
  |_=>none
 |_=>none
mutual
def AV.keyless :AV→Bool
 | .ptr _ _| .slice .. | .map _| .yield _| .gl .. | .ep .. =>false
 | .func _ fs cs=>AV.keylessL fs&&AV.keylessL cs
 | .meth _ r=>AV.keyless r
 | .via _ _ _ r=>AV.keyless r
 | .iface _ v=>AV.keyless v
 | .agg vs=>AV.keylessL vs
 | .tup vs=>AV.keylessL vs
 |_=>true
def AV.keylessL :List AV→Bool
 | [] =>true
 |a::aS=>AV.keyless a&&AV.keylessL aS
end
def uJ (agg:Bool)(e:Nat) :Nat→List AV→List AV
 |0,_=>[]
 |n+1,cs=> (bif agg then .agg (cs.take e)else cs.headD .undef) ::uJ agg e n (cs.drop e)
def aJM (P:Program)(t:TypeId)(cs:List AV) :Option AV:=
 match P.underlying t with
 |none=>none
 | some d=>bif isAggD d then
   match aW P t with
   |none=>none
   |some n=>bif ble n cs.length then some (.agg (cs.take n))else none
  else cs[0]?
def setAt (cs:List AV)(o:Nat)(vs:List AV) :List AV:=cs.take o++vs++cs.drop (o+vs.length)
def jM (x:AV)(o:Nat)(vs:List AV) :Option AV:=
 match x with
 | .agg cs=>bif ble (o+vs.length) cs.length then some (.agg (setAt cs o vs))else none
 | .tup _=>none
 | .val u=>match u with
  | .pointer _=>match o,vs with
   |0,[v] =>some v
   |_,_=>none
  |_=>none
 | _=>match o,vs with
  |0,[v] =>some v
  |_,_=>none
def yL (P:Program)(t:TypeId)(e:Nat) :Bool:=
 match P.underlying t with
 | some (.slice el) =>match aW P el with
  |some s=>beq s e
  |none=>false
 |_=>false
def aBG (P:Program)(t:TypeId)(x:AV)(lo hi mx:Option Nat) :Option AV:=
 match x with
 | .ilst e xs ex=>bif yL P t e then
   (let l:=lo.getD 0
   let u:=hi.getD xs.length
   match mx,hi with
   |none,_=>if l≤u∧u≤xs.length then some (.ilst e ((xs.drop l).take (u-l)) (ex&&beq u xs.length))else none
   |some m,some _=>if l≤u∧u≤m∧m≤xs.length then some (.ilst e ((xs.drop l).take (u-l)) (beq u m))else none
   |_,_=>none)else none
 | .gl b e off len ex=>bif yL P t e then
   (let l:=lo.getD 0
   let u:=hi.getD len
   match mx,hi with
   |none,_=>if l≤u∧u≤len then some (.gl b e (off+l) (u-l) (ex&&beq u len))else none
   |some m,some _=>if l≤u∧u≤m∧m≤len then some (.gl b e (off+l) (u-l) (beq u m))else none
   |_,_=>none)else none
 |_=>none
def kP (P:Program)(h:Hp)(el:TypeId)(e:Nat)(x:AV) :Option (List AV) :=
 match P.underlying el,x with
 |some _,.nils=>some []
 | some d,.slice b off len _ esz _=>bif beq esz e then match h.loadN b off (len*e)with
  |some vs=>bif cJ vs&& (isAggD d||beq e 1)then some (uJ (isAggD d) e len vs)else none
  |none=>none else none
 |some _,.ilst e' ys _=>bif beq e' e then some ys else none
 | some _,.gl b e' off len _=>bif beq e' e then match h.look b with
  |some (.lst e2 ys) =>if e2=e∧off+len≤ys.length then some ((ys.drop off).take len)else none
  |_=>none else none
 |_,_=>none
def jO (P:Program)(h:Hp)(argTypes:Array TypeId)(s x:AV) :Option (AV×Hp) :=
 match argTypes[0]?,argTypes[1]? with
 | some st,some xt=>match P.underlying st,P.underlying xt with
  | some (.slice el),some (.slice _) =>
   match aW P el,P.info? el,zeroOf P el with
   | some e,some inf,some z=>
    match kP P h el e x with
    |none=>none
    | some ys=>
     bif beq z.cells.length e&&ble e 40&&ble inf.bytes 1000&&ble 1 inf.bytes&&ble 1 e then
     match s with
     | .nils=>if ys.length≤1000000 then some (.gl h.nb e 0 ys.length false,h.new (.lst e ys))else none
     | .gl b e' off len _=>match h.look b with
      | some (.lst e2 xs) =>if e'=e∧e2=e∧off+len≤xs.length∧len+ys.length≤1000000 then
        some (.gl h.nb e 0 (len+ys.length) false,(h.del b).new (.lst e ((xs.drop off).take len++ys)))else none
      |_=>none
     | .ilst e' [] true=>if e'=e∧ys.length≤1000000 then some (.gl h.nb e 0 ys.length false,h.new (.lst e ys))else none
     | .ilst e' (y::xs) true=>if e'=e∧AV.keylessL ys=true∧ (y::xs).length+ys.length≤1000000 then some (.ilst e (y::xs++ys) false,h)else none
     |_=>none
     else none
   |_,_,_=>none
  |_,_=>none
 |_,_=>none
def kQ (P:Program) :List Field→Nat→List AV→List AV→Option Bool
 | [],_,[],[] =>some true
 | f ::fs,k,x::xs,y::ys=>
  match P.underlying f.type with
  | some d=>bif beq f.offset k&& (f.name != "_") &&plainKey d x&&plainKey d y then
    match oD x y,kQ P fs (Nat.succ k) xs ys with
    |some a,some b=>some (a&&b)
    |_,_=>none
   else none
  |none=>none
 |_,_,_,_=>none
def vop (P:Program)(h:Hp)(tm:T AV)(o:Oper) :Option AOut:=
 match o.op with
 | .load t a=>uI tm a fun
  | .iptr cs=>val (aJM P t cs) h
  | .ep b e i k=>match h.look b with
   | some (.lst e' xs) =>bif beq e' e then match xs[i]? with
    |some x=>val (aJM P t (x.cells.drop k)) h
    |none=>none else none
   |_=>none
  |_=>none
 | .store t a x=>yU tm a x fun
  | .ep b e i k,v=>match h.look b,aW P t with
   | some (.lst e' xs),some n=>bif beq e' e&&beq v.cells.length n&&ble (k+n) e&&cJ v.cells then match xs[i]? with
    | some y=>match jM y k v.cells with
     |some y'=>some (.val .undef (h.set b (.lst e (xs.set i y'))))
     |none=>none
    |none=>none else none
   |_,_=>none
  |_,_=>none
 | .fieldAddr t x f=>uI tm x fun
  | .iptr cs=>match aDR P t f with
   |some k=>bif blt k cs.length then some (.val (.iptr (cs.drop k)) h)else none
   |none=>none
  | .ep b e i k=>match aDR P t f with
   |some k'=>some (.val (.ep b e i (k+k')) h)
   |none=>none
  |_=>none
 | .indexAddr t x i=>yU tm x i fun a i=>
  match a with
  | .ilst e xs _=>bif yL P t e then match gU i xs.length with
   | some k=>match xs[k]? with
    |some y=>some (.val (.iptr y.cells) h)
    |none=>none
   |none=>none else none
  | .gl b e off len _=>bif yL P t e then match gU i len with
   |some k=>some (.val (.ep b e (off+k) 0) h)
   |none=>none else none
  |_=>none
 | .slice t x lo hi mx=>uI tm x fun a=>
  match oI tm lo,oI tm hi,oI tm mx with
  | some lo,some hi,some mx=>match fG lo,fG hi,fG mx with
   |some lo,some hi,some mx=>val (aBG P t a lo hi mx) h
   |_,_,_=>none
  |_,_,_=>none
 | .binOp op t x y _=>yU tm x y fun
  | .agg xs,.agg ys=>match P.underlying t with
   | some (.struct fs) =>bif !(P.eqGuardType P.depth t) && !(P.stoodInHeld t)then
     match op,kQ P fs.toList 0 xs ys with
     | .eql,some b=>some (.val (.bool b) h)
     | .neq,some b=>some (.val (.bool (!b)) h)
     |_,_=>none else none
   |_=>none
  |_,_=>none
 | .call c=>match c.callee,fS tm c.args.toList with
  | .builtin .len,some [x] =>match c.argTypes[0]?,x with
   | some t,.ilst _ xs _=>match P.underlying t with
    |some (.slice _) =>some (.val (.int .i64 xs.length) h)
    |_=>none
   | some t,.gl _ _ _ len _=>match P.underlying t with
    |some (.slice _) =>some (.val (.int .i64 len) h)
    |_=>none
   |_,_=>none
  | .builtin .append,some [s,x] =>zO (jO P h c.argTypes s x)
  |_,_=>none
 |_=>none
def jH (P:Program)(h:Hp)(tm:T AV)(o:Oper) :Option AOut:=
 match fK P h tm o with
 |some r=>some r
 |none=>vop P h tm o
def aHe (tm:T AV)(ops:List Oper)(j:Nat) :Option (Option Bool) :=
 match ops[j]? with
 |none=>some none
 | some o=>match o.dst with
  |none=>some none
  | some d=>match tm.at d with
   |some (.bool b) =>some (some b)
   |some (.val _) =>none
   |some _=>some none
   |none=>none
def bP (tm:T AV)(ops:List Oper)(o:Oper) :Option Bool:=
 match o.guard with
 |none=>some true
 | some (j,want) =>match aHe tm ops j with
  |none=>none
  |some none=>some false
  |some (some b) =>some (b==want)
def gG (tm:T AV)(nt:Nat)(dst:Option Nat)(v:AV) :Option (T AV) :=
 match dst with
 |none=>some tm
 |some d=>bif blt d nt then some (tm.put d v)else none
inductive Kd where|pure|read|fresh|eff
 deriving Inhabited,DecidableEq
def cK :Op→Kd
 | .move _| .assign _| .pick .. | .build .. | .nilCheck _| .binOp .. | .unOp .. | .makeInterface .. | .makeFunc .. | .slice .. | .fieldAddr .. | .field .. | .indexAddr .. | .index .. | .extract .. | .typeAssert .. =>.pure
 | .load .. | .lookup .. | .convert .. =>.read
 | .alloc _| .buildSlice .. =>.fresh
 | .call c=>match c.callee with
  | .builtin .len=>.read
  | .builtin .cap| .builtin .max| .builtin .min=>.pure
  |_=>.eff
 |_=>.eff
def eS (bs:List Nat) :List Edge→Nat
 | [] =>0
 |e::es=>bif Region.binds .any e then lor (lor (pow 2 e.on) (bs.getD e.on 0)) (eS bs es)else eS bs es
def kR :List Oper→List Nat→List Nat
 | [],bs=>bs
 |o::os,bs=>kR os (bs++ [eS bs o.after.toList])
def eT :List Oper→Nat→List Nat
 | [],_=>[]
 | o::os,i=>match cK o.op with
  | .eff=>i::eT os (Nat.succ i)
  |_=>eT os (Nat.succ i)
def chained (bs:List Nat) :List Nat→Bool
 |e::f::es=>testBit (bs.getD f 0) e&&chained bs (f::es)
 |_=>true
def aHf (b:Nat) :List Nat→Nat→Nat
 | [],_=>0
 |e::es,k=>bif testBit b e then max (Nat.succ k) (aHf b es (Nat.succ k))else aHf b es (Nat.succ k)
def yM (bs:List Nat)(i:Nat) :List Nat→Nat→Nat
 | [],k=>k
 |e::es,k=>bif testBit (bs.getD e 0) i then k else yM bs i es (Nat.succ k)
structure Plan where
 o:Oper
 kd:Kd
 lo:Nat
 hi:Nat
 deriving Inhabited
def pO (bs es:List Nat) :List Oper→Nat→List Plan
 | [],_=>[]
 |o::os,i=>{o,kd:=cK o.op,lo:=aHf (bs.getD i 0) es 0,hi:=yM bs i es 0}::pO bs es os (Nat.succ i)
def oM :List Plan→Nat
 | [] =>0
 | p::ps=>match p.kd with
  | .fresh=>Nat.succ (oM ps)
  |_=>oM ps
def mH (ops:List Oper)(o:Oper) :List Nat:=
 o.dst.toList++ ((o.op.operands.toList.filterMap fun| .tmp t=>some t|_=>none) ++
 (match o.guard with
  | some (g,_) =>match ops[g]? with
   |some og=>og.dst.toList
   |none=>[]
  |none=>[]))
def yN (t:Nat) :List Nat→Bool
 | [] =>false
 |x::xs=>beq x t||yN t xs
def aJN (bs:List Nat)(i:Nat)(names:List Nat) :List Oper→Nat→Bool
 | [],_=>true
 | o::os,k=> (match o.dst with
   |some d=> !(yN d names) ||beq k i|| (blt k i&&testBit (bs.getD i 0) k) || (blt i k&&testBit (bs.getD k 0) i)
   |none=>true) &&aJN bs i names os (Nat.succ k)
def wOk (bs:List Nat)(ops:List Oper) :List Oper→Nat→Bool
 | [],_=>true
 |o::os,i=>aJN bs i (mH ops o) ops 0&&wOk bs ops os (Nat.succ i)
def wR (md:Region.Mode)(n:Nat)(rk:List Nat)(i:Nat) :List Edge→Bool
 | [] =>true
 |e::es=> (!(Region.binds md e) || (blt e.on n&&blt (rk.getD e.on 0) (rk.getD i 0))) &&wR md n rk i es
def rW (md:Region.Mode)(n:Nat)(rk:List Nat) :List Oper→Nat→Bool
 | [],_=>true
 |o::os,i=>wR md n rk i o.after.toList&&rW md n rk os (Nat.succ i)
structure RPlan where
 ok:Bool
 fresh:Nat
 ops:List Oper
 plans:List Plan
 deriving Inhabited
def jJ (ops:Array Oper) :RPlan:=
 let l:=ops.toList
 let bs:=kR l []
 let es:=eT l 0
 let ps:=pO bs es l 0
 let n:=ops.size
 let id:=List.range n
 let gc:=Region.linearise .gc ops 0
 {ok:=chained bs es&&wOk bs l l 0&&rW .any n id l 0&&rW .text n id l 0&&rW .gc n (id.map fun i=>gc.idxOf i) l 0,fresh:=oM ps,ops:=l,plans:=ps}
abbrev bK :=Nat→AIn→Hp→Option (AV×Hp)
structure Again where
 o:Oper
 tm:T AV
 lo:Nat
 hi:Nat
 v:AV
 deriving Inhabited
structure RS where
 tm:T AV
 h:Hp
 stages:List Hp      -- the heaps before the effects so far,the last one first
 s:Nat
 pend:List (Nat×Nat×AObj)
 next:Nat
 again:List Again
 deriving Inhabited
def aM (h:Hp)(k:Nat) :List (Nat×Nat×AObj) →Hp
 | [] =>h
 | (a,id,o) ::ps=>bif beq a k then(aM h k ps).set id o else aM h k ps
def nA (P:Program)(tm:T AV)(id:Nat)(o:Oper) :Option (AV×AObj) :=
 match o.op with
 | .alloc e=>match zeroOf P e with
  |some z=>some (.ptr id 0,.cells (putCells .leaf 0 z.cells) z.cells.length [] false)
  |none=>none
 | .buildSlice t len ps=>match zM tm ps.toList with
  | some l=>match pM P t len l with
   |some (cs,s) =>some (.slice id 0 len len s true,.cells (putCells .leaf 0 cs) cs.length [] false)
   |none=>none
  |none=>none
 |_=>none
def aDS (b hi:Nat) :List (Nat×Nat×AObj) →Option (Nat×AObj)
 | [] =>none
 | (a,id,o) ::ps=>bif beq id b&&ble hi a then some (a,o)else aDS b hi ps
def qX (P:Program)(tm:T AV)(pend:List (Nat×Nat×AObj))(hi:Nat)(o:Oper) :Option (List AV) :=
 match o.op with
 | .convert s d x=>match bI tm x with
  | some (.slice b off len _ _ _) =>match aDS b hi pend with
   | some (_,.cells t _ _ _) =>match P.underlying s,P.underlying d,getCells t off len with
    | some (.slice e),some .string,some vs=>match P.underlying e with
     |some (.int .u8) =>some vs
     |_=>none
    |_,_,_=>none
   |_=>none
  |_=>none
 |_=>none
def kS (P:Program)(call:bK)(nt:Nat)(ops:List Oper)(p:Plan)(r:RS) :Option RS:=
 match bP r.tm ops p.o with
 |none=>none
 | some false=>
  match gG r.tm nt p.o.dst .undef with
  |none=>none
  | some tm=>match p.kd with
   | .eff=>let h:=aM r.h r.s r.pend;some {r with tm,h,stages:=r.h::r.stages,s:=Nat.succ r.s}
   | .fresh=>some {r with tm,next:=Nat.succ r.next}
   |_=>some {r with tm}
 | some true=>
  match p.kd with
  | .pure=>match jH P r.h r.tm p.o with
   | some (.val v _) =>match gG r.tm nt p.o.dst v with
    |some tm=>some {r with tm}
    |none=>none
   |_=>none
  | .read=>match jH P r.h r.tm p.o with
   | some (.val v _) =>match gG r.tm nt p.o.dst v with
    |some tm=>some {r with tm,again:=bif beq p.lo p.hi then r.again else⟨p.o,r.tm,p.lo,p.hi,v⟩ ::r.again}
    |none=>none
   | _ =>match qX P r.tm r.pend p.hi p.o with
    | some vs=>match qW vs with
     | some v=>match gG r.tm nt p.o.dst v with
      |some tm=>some {r with tm}
      |none=>none
     |none=>none
    |none=>none
  | .fresh=>match nA P r.tm r.next p.o with
   | some (v,o) =>match gG r.tm nt p.o.dst v with
    |some tm=>some {r with tm,next:=Nat.succ r.next,pend:= (p.hi,r.next,o) ::r.pend}
    |none=>none
   |none=>none
  | .eff=>
   let h:=aM r.h r.s r.pend
   match jH P h r.tm p.o with
   | some (.val v h') =>match gG r.tm nt p.o.dst v with
    |some tm=>some {r with tm,h:=h',stages:=r.h::r.stages,s:=Nat.succ r.s}
    |none=>none
   | some (.call c) =>match call r.s c h with
    | some (v,h') =>match gG r.tm nt p.o.dst v with
     |some tm=>some {r with tm,h:=h',stages:=r.h::r.stages,s:=Nat.succ r.s}
     |none=>none
    |none=>none
   |_=>none
def nB (P:Program)(call:bK)(nt:Nat)(ops:List Oper) :List Plan→RS→Option RS
 | [],r=>some r
 | p::ps,r=>match kS P call nt ops p r with
  |some r'=>nB P call nt ops ps r'
  |none=>none
def aDb (P:Program)(a:Again)(h:Hp) :Bool:=
 match jH P h a.tm a.o with
 |some (.val v _) =>AV.same v a.v
 |_=>false
def mU (P:Program)(a:Again) :List Hp→Nat→Bool
 | [],_=>true
 |h::hs,k=> (bif ble a.lo k&&ble k a.hi then aDb P a h else true) &&mU P a hs (k-1)
def qY (P:Program)(hs:List Hp)(k:Nat) :List Again→Bool
 | [] =>true
 |a::aS=>mU P a hs k&&qY P hs k aS
def aDc (P:Program)(call:bK)(nt:Nat)(ops:Array Oper)(tm:T AV)(h:Hp) :Option (T AV×Hp) :=
 let pl:=jJ ops
 bif pl.ok then
  match nB P call nt pl.ops pl.plans {tm,h:={h with nb:=h.nb+pl.fresh},stages:=[],s:=0,pend:=[],next:=h.nb,again:=[]} with
  |some r=>bif qY P (r.h::r.stages) r.s r.again then some (r.tm,aM r.h r.s r.pend)else none
  |none=>none
 else none
def dA :T AV→Nat→List AV→T AV:=putCells
def cL (P:Program)(f:Nat)(args:List AV)(kind:CallKind) :Option AFrame:=
 match P.funcs[f]? with
 | some fn=>match fn.body with
  |some c=>some {fn:=f,tm:=dA .leaf 0 args,nt:=max fn.ntmps args.length,todo:=[.code c],defers:=[],mode:=.run,kind,roundOf:=none}
  |none=>none
 |none=>none
def lN :T AV→Nat→List Nat→List AV→Option (T AV)
 |tm,_,[],[] =>some tm
 |tm,nt,p::ps,a::aS=>bif blt p nt then lN (tm.put p a) nt ps aS else none
 |_,_,_,_=>none
def zQ (h:Hp)(l:Nat)(args:List AV) :Option AFrame:=
 match h.look l with
 | some (.loop _ _ fn tm nt params assign body _) =>
  match lN tm nt params args with
  |some tm'=>some {fn,tm:=tm',nt,todo:=[.code assign,.beginRound,.code body],defers:=[],mode:=.run,kind:=.normal,roundOf:=some l}
  |none=>none
 |_=>none
def dB (P:Program)(h:Hp) :AIn→Option AFrame
 | .enter f args=>cL P f args .normal
 | .round l args=>zQ h l args
def mI (id:Nat) :List AItem→Option (List AItem)
 | .inBlock id'::k=>bif beq id' id then some k else mI id k
 |_::k=>mI id k
 | [] =>none
def mJ (l:Nat) :List AItem→Option (List AItem)
 | .inScope body::k=>match findLabel body l with
  |some rest=>some (.code rest:: .inScope body::k)
  |none=>mJ l k
 |_::k=>mJ l k
 | [] =>none
def AFrame.finish (fr:AFrame)(v:AV) :Option AFrame:=
 match fr.todo with
 | .ops all i (o::rest) ::k=>match gG fr.tm fr.nt o.dst v with
  |some tm=>some {fr with tm,todo:=.ops all (Nat.succ i) rest::k}
  |none=>none
 | .inRF l::k=>some {fr with todo:=.endRF l::k}
 |_=>none
def AFrame.raise (fr:AFrame)(vs:List (AV×Bool)) :AFrame:=
 match fr.mode with
 | .pan chain=>{fr with mode:=.pan (vs++chain)}
 |_=>{fr with mode:=.pan vs}
def aHg (m:AMode) :AMode:=
 match m with
 | .pan ((_,true) ::_) =>.ret
 |m=>m
def aPF (P:Program)(h:Hp)(tm:T AV) :ResultVar→Option AV
 | .tmp t=>tm.at t
 | .cell a t=>match tm.at a with
  |some (.ptr b off) =>aPE P h t b off
  |_=>none
def kT (P:Program)(h:Hp)(tm:T AV) :List ResultVar→Option (List AV)
 | [] =>some []
 | r::rs=>match aPF P h tm r,kT P h tm rs with
  |some v,some vs=>some (v::vs)
  |_,_=>none
def aBH :List AV→AV
 | [v] =>v
 |vs=>.tup vs
def aAy (fr:AFrame)(cs:List AFrame)(v:AV)(h:Hp) :Option AS:=
 match cs with
 | [] =>none
 | c::cs=>match fr.kind with
  | .normal=>match c.finish v with
   |some c'=>some ⟨c',cs,h⟩
   |none=>none
  | .deferred=>some ⟨{c with mode:=aHg c.mode},cs,h⟩
  |_=>none
def kF (h:Hp)(l:Nat)(jump:Option Code) :Option Hp:=
 match h.look l with
 |some (.loop _ _ fn tm nt ps aS bd df) =>some (h.set l (.loop (match jump with|none=>.ready|some _=>.done) jump fn tm nt ps aS bd df))
 |_=>none
def qI (fr:AFrame)(cs:List AFrame)(h:Hp)(jump:Option Code) :Option AS:=
 match fr.roundOf with
 | none=>match jump with
  |none=>some ⟨{fr with mode:=.ret},cs,h⟩
  |some .ret=>some ⟨{fr with mode:=.ret},cs,h⟩
  |_=>none
 | some l=>match kF h l jump with
  |some h'=>aAy fr cs (.bool jump.isNone) h'
  |none=>none
def toC (fr:AFrame)(todo:List AItem)(cs:List AFrame)(h:Hp) :Option AS:=some ⟨{fr with todo},cs,h⟩
def qJ (P:Program)(fr:AFrame)(cs:List AFrame)(h:Hp)(c:AIn) :Option AS:=
 match dB P h c with
 |some g=>some ⟨g,fr::cs,h⟩
 |none=>none
def kU (P:Program)(call:bK)(s:AS) :Option AS:=
 let fr:=s.fr
 let cs:=s.cs
 let h:=s.h
 match fr.mode with
 | .run =>match fr.todo with
  | [] =>qI fr cs h none
  | .code .ret::_=>qI fr cs h (some .ret)
  | .code .skip::k=>toC fr k cs h
  | .code (.label _) ::k=>toC fr k cs h
  | .inBlock _::k=>toC fr k cs h
  | .inScope _::k=>toC fr k cs h
  | .code (.seq a b) ::k=>toC fr (.code a:: .code b::k) cs h
  | .code (.cond c x y) ::k=>match bI fr.tm c with
   |some (.bool true) =>toC fr (.code x::k) cs h
   |some (.bool false) =>toC fr (.code y::k) cs h
   |_=>none
  | .code (.block id c) ::k=>toC fr (.code c:: .inBlock id::k) cs h
  | .code (.loop c) ::k=>toC fr (.code c:: .inLoop c::k) cs h
  | .inLoop c::k=>toC fr (.code c:: .inLoop c::k) cs h
  | .code (.scope c) ::k=>toC fr (.code c:: .inScope c::k) cs h
  | .code (.exit id) ::k=>match mI id k with
   |some k'=>toC fr k' cs h
   |none=>qI fr cs h (some (.exit id))
  | .code (.goto l) ::k=>match mJ l k with
   |some k'=>toC fr k' cs h
   |none=>qI fr cs h (some (.goto l))
  | .code (.region _ ops false) ::k=>toC fr (.ops ops 0 ops.toList::k) cs h
  | .code (.region _ ops true) ::k=>match aDc P call fr.nt ops fr.tm h with
   |some (tm,h') =>some ⟨{fr with tm,todo:=k},cs,h'⟩
   |none=>none
  | .ops _ _ [] ::k=>toC fr k cs h
  | .ops all i (o::rest) ::k=>
   match bP fr.tm all.toList o with
   |none=>none
   | some false=>match gG fr.tm fr.nt o.dst .undef with
    |some tm=>some ⟨{fr with tm,todo:=.ops all (Nat.succ i) rest::k},cs,h⟩
    |none=>none
   | some true=>match jH P h fr.tm o with
    | some (.val v h') =>match gG fr.tm fr.nt o.dst v with
     |some tm=>some ⟨{fr with tm,todo:=.ops all (Nat.succ i) rest::k},cs,h'⟩
     |none=>none
    |some (.call c) =>qJ P fr cs h c
    | some (.defer d) =>match fr.roundOf,gG fr.tm fr.nt o.dst .undef with
     |none,some tm=>some ⟨{fr with tm,todo:=.ops all (Nat.succ i) rest::k,defers:=d::fr.defers},cs,h⟩
     |_,_=>none
    |some (.panic v) =>some ⟨fr.raise [(v,false)],cs,h⟩
    | some .recover=>match fr.roundOf,fr.kind,cs with
     | none,.deferred,c::cs'=>match c.mode with
      | .pan ((v,false) ::older) =>match gG fr.tm fr.nt o.dst v with
       |some tm=>some ⟨{fr with tm,todo:=.ops all (Nat.succ i) rest::k},{c with mode:=.pan ((v,true) ::older)}::cs',h⟩
       |none=>none
      | _=>match gG fr.tm fr.nt o.dst .nili with
       |some tm=>some ⟨{fr with tm,todo:=.ops all (Nat.succ i) rest::k},cs,h⟩
       |none=>none
     |_,_,_=>none
    |none=>none
  | .code (.rangeFunc f ps assign body) ::k=>
   match bI fr.tm f with
   |none=>none
   | some fv=>
    match fr.roundOf with
    | none=>
     let h1:=h.new (.defd false)
     let l:=h1.nb
     let h2:=h1.new (.loop .ready none fr.fn fr.tm fr.nt ps.toList assign body h.nb)
     match uN P fv [.yield l]with
     |some (.call c) =>qJ P {fr with todo:=.inRF l::k,defers:=.col h.nb::fr.defers} cs h2 c
     |_=>none
    | some o=>match h.look o with
     | some (.loop _ _ _ _ _ _ _ _ df) =>
      let l:=h.nb
      let h2:=h.new (.loop .ready none fr.fn fr.tm fr.nt ps.toList assign body df)
      match uN P fv [.yield l]with
      |some (.call c) =>qJ P {fr with todo:=.inRF l::k} cs h2 c
      |_=>none
     |_=>none
  | .inRF _::_=>none
  | .beginRound::k=>match fr.roundOf with
   |none=>none
   | some l=>match h.look l with
    |some (.loop .ready pe fn tm nt ps aS bd df) =>some ⟨{fr with todo:=k},cs,h.set l (.loop .busy pe fn tm nt ps aS bd df)⟩
    |_=>none
  | .endRF l::k=>match h.look l with
   |some (.loop .busy _ _ _ _ _ _ _ _) =>none
   | some (.loop _ pe fn tm nt ps aS bd df) =>
    some ⟨{fr with todo:= (match pe with|some c=>[.code c] |none=>[]) ++k},cs,h.set l (.loop .exhausted pe fn tm nt ps aS bd df)⟩
   |_=>none
  | .code (.refuse _) ::_=>none
  | .junk::_=>none
 | .ret=>match fr.defers with
  | .col b::ds=>match h.look b with
   |some (.defd false) =>some ⟨{fr with defers:=ds},cs,h.set b (.defd true)⟩
   |_=>none
  | .fn f args::ds=>bif eH P f then(match cL P f args .deferred with
   |some g=>some ⟨g,{fr with defers:=ds}::cs,h⟩
   |none=>none)else none
  | [] =>match P.funcs[fr.fn]? with
   |none=>none
   | some fn=>match kT P h fr.tm fn.results.toList with
    |some vs=>aAy fr cs (aBH vs) h
    |none=>none
 | .pan chain=>match fr.defers with
  | .col b::ds=>match h.look b with
   |some (.defd false) =>some ⟨{fr with defers:=ds},cs,h.set b (.defd true)⟩
   |_=>none
  | .fn f args::ds=>bif eH P f then(match cL P f args .deferred with
   |some g=>some ⟨g,{fr with defers:=ds}::cs,h⟩
   |none=>none)else none
  | [] =>match P.funcs[fr.fn]?,cs with
   |some _,c::cs=>some ⟨c.raise chain,cs,h⟩
   |_,_=>none
def uP (P:Program)(s:AS) :Option (AV×Hp) :=
 match s.cs,s.fr.kind with
 | [],.normal=>match s.fr.mode,s.fr.roundOf,s.fr.todo with
  | .ret,none,_=>match s.fr.defers,P.funcs[s.fr.fn]? with
   | [],some fn=>match kT P s.h s.fr.tm fn.results.toList with
    |some vs=>some (aBH vs,s.h)
    |none=>none
   |_,_=>none
  | .run,some l,[] =>match kF s.h l none with
   |some h'=>some (.bool true,h')
   |none=>none
  | .run,some l,.code .ret::_=>match kF s.h l (some .ret)with
   |some h'=>some (.bool false,h')
   |none=>none
  | .run,some l,.code (.exit id) ::k=>match mI id k with
   |some _=>none
   | none=>match kF s.h l (some (.exit id))with
    |some h'=>some (.bool false,h')
    |none=>none
  | .run,some l,.code (.goto t) ::k=>match mJ t k with
   |some _=>none
   | none=>match kF s.h l (some (.goto t))with
    |some h'=>some (.bool false,h')
    |none=>none
  |_,_,_=>none
 |_,_=>none
def aHh (P:Program)(call:bK) :Nat→AS→Option (AV×Hp)
 |0,_=>none
 | n+1,s=>match uP P s with
  |some r=>some r
  | none=>match kU P call s with
   |some s'=>aHh P call n s'
   |none=>none
def uQ (P:Program)(n:Nat) :Nat→bK
 |0=>fun _ _ _=>none
 | d+1=>fun _ c h=>match dB P h c with
  |some g=>aHh P (uQ P n d) n ⟨g,[],h⟩
  |none=>none
def aTk (P:Program)(call:bK)(s:AS) :Option AS:=
 match s with
 | ⟨⟨fn,tm,nt,todo,defers,mode,kind,roundOf⟩,cs,h⟩ =>
 match mode with
 | .run =>match todo with
  | [] =>qI ⟨fn,tm,nt,todo,defers,mode,kind,roundOf⟩ cs h none
  | .code .ret::_=>qI ⟨fn,tm,nt,todo,defers,mode,kind,roundOf⟩ cs h (some .ret)
  | .code .skip::k=>some ⟨⟨fn,tm,nt,k,defers,mode,kind,roundOf⟩,cs,h⟩
  | .code (.label _) ::k=>some ⟨⟨fn,tm,nt,k,defers,mode,kind,roundOf⟩,cs,h⟩
  | .inBlock _::k=>some ⟨⟨fn,tm,nt,k,defers,mode,kind,roundOf⟩,cs,h⟩
  | .inScope _::k=>some ⟨⟨fn,tm,nt,k,defers,mode,kind,roundOf⟩,cs,h⟩
  | .code (.seq a b) ::k=>some ⟨⟨fn,tm,nt,(.code a:: .code b::k),defers,mode,kind,roundOf⟩,cs,h⟩
  | .code (.cond c x y) ::k=>match bI tm c with
   |some (.bool true) =>some ⟨⟨fn,tm,nt,(.code x::k),defers,mode,kind,roundOf⟩,cs,h⟩
   |some (.bool false) =>some ⟨⟨fn,tm,nt,(.code y::k),defers,mode,kind,roundOf⟩,cs,h⟩
   |_=>none
  | .code (.block id c) ::k=>some ⟨⟨fn,tm,nt,(.code c:: .inBlock id::k),defers,mode,kind,roundOf⟩,cs,h⟩
  | .code (.loop c) ::k=>some ⟨⟨fn,tm,nt,(.code c:: .inLoop c::k),defers,mode,kind,roundOf⟩,cs,h⟩
  | .inLoop c::k=>some ⟨⟨fn,tm,nt,(.code c:: .inLoop c::k),defers,mode,kind,roundOf⟩,cs,h⟩
  | .code (.scope c) ::k=>some ⟨⟨fn,tm,nt,(.code c:: .inScope c::k),defers,mode,kind,roundOf⟩,cs,h⟩
  | .code (.exit id) ::k=>match mI id k with
   |some k'=>some ⟨⟨fn,tm,nt,k',defers,mode,kind,roundOf⟩,cs,h⟩
   |none=>qI ⟨fn,tm,nt,todo,defers,mode,kind,roundOf⟩ cs h (some (.exit id))
  | .code (.goto l) ::k=>match mJ l k with
   |some k'=>some ⟨⟨fn,tm,nt,k',defers,mode,kind,roundOf⟩,cs,h⟩
   |none=>qI ⟨fn,tm,nt,todo,defers,mode,kind,roundOf⟩ cs h (some (.goto l))
  | .code (.region _ ops false) ::k=>some ⟨⟨fn,tm,nt,(.ops ops 0 ops.toList::k),defers,mode,kind,roundOf⟩,cs,h⟩
  | .code (.region _ ops true) ::k=>match aDc P call nt ops tm h with
   |some (tm,h') =>some ⟨⟨fn,tm,nt,(k),defers,mode,kind,roundOf⟩,cs,h'⟩
   |none=>none
  | .ops _ _ [] ::k=>some ⟨⟨fn,tm,nt,k,defers,mode,kind,roundOf⟩,cs,h⟩
  | .ops all i (o::rest) ::k=>
   match bP tm all.toList o with
   |none=>none
   | some false=>match gG tm nt o.dst .undef with
    |some tm=>some ⟨⟨fn,tm,nt,(.ops all (Nat.succ i) rest::k),defers,mode,kind,roundOf⟩,cs,h⟩
    |none=>none
   | some true=>match jH P h tm o with
    | some (.val v h') =>match gG tm nt o.dst v with
     |some tm=>some ⟨⟨fn,tm,nt,(.ops all (Nat.succ i) rest::k),defers,mode,kind,roundOf⟩,cs,h'⟩
     |none=>none
    |some (.call c) =>qJ P ⟨fn,tm,nt,todo,defers,mode,kind,roundOf⟩ cs h c
    | some (.defer d) =>match roundOf,gG tm nt o.dst .undef with
     |none,some tm=>some ⟨⟨fn,tm,nt,(.ops all (Nat.succ i) rest::k),(d::defers),mode,kind,roundOf⟩,cs,h⟩
     |_,_=>none
    |some (.panic v) =>some ⟨(⟨fn,tm,nt,todo,defers,mode,kind,roundOf⟩ :AFrame).raise [(v,false)],cs,h⟩
    | some .recover=>match roundOf,kind,cs with
     | none,.deferred,c::cs'=>match c.mode with
      | .pan ((v,false) ::older) =>match gG tm nt o.dst v with
       |some tm=>some ⟨⟨fn,tm,nt,(.ops all (Nat.succ i) rest::k),defers,mode,kind,roundOf⟩,{c with mode:=.pan ((v,true) ::older)}::cs',h⟩
       |none=>none
      | _=>match gG tm nt o.dst .nili with
       |some tm=>some ⟨⟨fn,tm,nt,(.ops all (Nat.succ i) rest::k),defers,mode,kind,roundOf⟩,cs,h⟩
       |none=>none
     |_,_,_=>none
    |none=>none
  | .code (.rangeFunc f ps assign body) ::k=>
   match bI tm f with
   |none=>none
   | some fv=>
    match roundOf with
    | none=>
     let h1:=h.new (.defd false)
     let l:=h1.nb
     let h2:=h1.new (.loop .ready none fn tm nt ps.toList assign body h.nb)
     match uN P fv [.yield l]with
     |some (.call c) =>qJ P ⟨fn,tm,nt,(.inRF l::k),(.col h.nb::defers),mode,kind,roundOf⟩ cs h2 c
     |_=>none
    | some o=>match h.look o with
     | some (.loop _ _ _ _ _ _ _ _ df) =>
      let l:=h.nb
      let h2:=h.new (.loop .ready none fn tm nt ps.toList assign body df)
      match uN P fv [.yield l]with
      |some (.call c) =>qJ P ⟨fn,tm,nt,(.inRF l::k),defers,mode,kind,roundOf⟩ cs h2 c
      |_=>none
     |_=>none
  | .inRF _::_=>none
  | .beginRound::k=>match roundOf with
   |none=>none
   | some l=>match h.look l with
    |some (.loop .ready pe fn' tm' nt' ps aS bd df) =>some ⟨⟨fn,tm,nt,(k),defers,mode,kind,roundOf⟩,cs,h.set l (.loop .busy pe fn' tm' nt' ps aS bd df)⟩
    |_=>none
  | .endRF l::k=>match h.look l with
   |some (.loop .busy _ _ _ _ _ _ _ _) =>none
   | some (.loop _ pe fn' tm' nt' ps aS bd df) =>
    some ⟨⟨fn,tm,nt,((match pe with|some c=>[.code c] |none=>[]) ++k),defers,mode,kind,roundOf⟩,cs,h.set l (.loop .exhausted pe fn' tm' nt' ps aS bd df)⟩
   |_=>none
  | .code (.refuse _) ::_=>none
  | .junk::_=>none
 | .ret=>match defers with
  | .col b::ds=>match h.look b with
   |some (.defd false) =>some ⟨⟨fn,tm,nt,todo,(ds),mode,kind,roundOf⟩,cs,h.set b (.defd true)⟩
   |_=>none
  | .fn f args::ds=>bif eH P f then(match cL P f args .deferred with
   |some g=>some ⟨g,⟨fn,tm,nt,todo,(ds),mode,kind,roundOf⟩ ::cs,h⟩
   |none=>none)else none
  | [] =>match P.funcs[fn]? with
   |none=>none
   | some fd=>match kT P h tm fd.results.toList with
    |some vs=>aAy ⟨fn,tm,nt,todo,defers,mode,kind,roundOf⟩ cs (aBH vs) h
    |none=>none
 | .pan chain=>match defers with
  | .col b::ds=>match h.look b with
   |some (.defd false) =>some ⟨⟨fn,tm,nt,todo,(ds),mode,kind,roundOf⟩,cs,h.set b (.defd true)⟩
   |_=>none
  | .fn f args::ds=>bif eH P f then(match cL P f args .deferred with
   |some g=>some ⟨g,⟨fn,tm,nt,todo,(ds),mode,kind,roundOf⟩ ::cs,h⟩
   |none=>none)else none
  | [] =>match P.funcs[fn]?,cs with
   |some _,c::cs=>some ⟨c.raise chain,cs,h⟩
   |_,_=>none
theorem aTl (P:Program)(call:bK)(s:AS) :aTk P call s=kU P call s:=by
 obtain⟨⟨fn,tm,nt,todo,defers,mode,kind,roundOf⟩,cs,h⟩ :=s;rfl
def Hp.only (h:Hp) :List Nat→T AObj→T AObj
 | [],t=>t
 | b::bs,t=>match h.look b with
  |some o=>Hp.only h bs (t.put b o)
  |none=>Hp.only h bs t
def AS.only (s:AS)(bs:List Nat) :AS:={s with h:={s.h with t:=Hp.only s.h bs .leaf}}
def mK (P:Program)(call:bK) :Nat→AS→Option AS
 |0,s=>some s
 | n+1,s=>match aTk P call s with
  |some s'=>mK P call n s'
  |none=>none
theorem bH (a b:Nat) :beq a b=decide (a=b) :=by
 by_cases h:a=b
 ·subst h;simp
 · simp only [h,decide_false];cases hb:beq a b
   ·rfl
   ·exact absurd (Nat.eq_of_beq_eq_true hb) h
theorem iO (a b:Nat) :ble a b=decide (a≤b) :=by
 cases hb:ble a b
 · have:¬a≤b:=fun h=>by rw [Nat.ble_eq_true_of_le h]at hb;cases hb
   simp [this]
 ·simp [Nat.le_of_ble_eq_true hb]
theorem cO (a b:Nat) :blt a b=decide (a<b) :=iO _ _
theorem T.get_node {α:Type}(l r:T α)(v:Option α)(k:Nat) :
  (T.node l v r).get k=if k=1 then v else if k % 2=0 then l.get (k / 2)else r.get (k / 2) :=by
 show(bif beq k 1 then v else bif beq (k % 2) 0 then l.get (k / 2)else r.get (k / 2)) =_;simp only [bH,cond_eq_ite,decide_eq_true_eq]
theorem T.get_leaf {α:Type}(k:Nat) : (T.leaf:T α).get k=none:=rfl
theorem T.setF_leaf {α:Type}(x:Option α)(f k:Nat) :
  T.setF x (f+1) k .leaf=if k=1 then .node .leaf x .leaf else if k % 2=0 then .node (T.setF x f (k / 2) .leaf) none .leaf else .node .leaf none (T.setF x f (k / 2) .leaf) :=by
 show(bif beq k 1 then T.node .leaf x .leaf else bif beq (k % 2) 0 then T.node (T.setF x f (k / 2) .leaf) none .leaf else T.node .leaf none (T.setF x f (k / 2) .leaf)) =_;simp only [bH,cond_eq_ite,decide_eq_true_eq]
theorem T.setF_node {α:Type}(x:Option α)(f k:Nat)(l r:T α)(v:Option α) :
  T.setF x (f+1) k (.node l v r) =if k=1 then .node l x r else if k % 2=0 then .node (T.setF x f (k / 2) l) v r else .node l v (T.setF x f (k / 2) r) :=by
 show(bif beq k 1 then T.node l x r else bif beq (k % 2) 0 then T.node (T.setF x f (k / 2) l) v r else T.node l v (T.setF x f (k / 2) r)) =_;simp only [bH,cond_eq_ite,decide_eq_true_eq]
theorem T.get_setF {α:Type}(x:Option α) :∀ (f k:Nat) (t:T α) (j:Nat),1≤k→k<2 ^ f→1≤j →
  (T.setF x f k t).get j=if j=k then x else t.get j:=by
 intro f
 induction f with
 |zero=>intro k t j h1 h2 _;simp at h2;omega
 | succ f ih=>
  intro k t j h1 h2 hj;have h2':k / 2<2 ^ f:=by rw [pow_succ]at h2;omega
  have key :∀ (l r:T α) (v:Option α),(if k=1 then T.node l x r else if k % 2=0 then .node (T.setF x f (k / 2) l) v r else .node l v (T.setF x f (k / 2) r)).get j=if j=k then x else(T.node l v r).get j:=by
   intro l r v;by_cases hk:k=1
   · simp only [hk,if_true,T.get_node];by_cases h:j=1<;>simp [h]
   · simp only [hk,if_false];by_cases hm:k % 2=0
     · simp only [hm,if_true,T.get_node];by_cases h:j=1
       · have:¬j=k:=by omega
         simp [h,show ¬ (1=k)by omega]
       · simp only [h,if_false];by_cases hn:j % 2=0
         · simp only [hn,if_true];rw [ih _ _ _ (by omega) h2' (by omega)];by_cases e:j=k
           ·simp [e]
           ·simp [e,show ¬ (j / 2=k / 2)by omega]
         ·simp [hn,show ¬ (j=k)by omega]
     · simp only [hm,if_false,T.get_node];by_cases h:j=1
       ·simp [h,show ¬ (1=k)by omega]
       · simp only [h,if_false];by_cases hn:j % 2=0
         ·simp [hn,show ¬ (j=k)by omega]
         · simp only [hn,if_false];rw [ih _ _ _ (by omega) h2' (by omega)];by_cases e:j=k
           ·simp [e]
           ·simp [e,show ¬ (j / 2=k / 2)by omega]
  cases t with
  | leaf=>
   rw [T.setF_leaf,key .leaf .leaf none];simp [T.get_node,T.get_leaf]
  |node l v r=>rw [T.setF_node];exact key l r v
theorem zR (k:Nat) :k<2 ^ (k+1) :=lt_of_lt_of_le Nat.lt_two_pow_self (Nat.pow_le_pow_right (by omega) (by omega))
theorem T.at_put {α:Type}(t:T α)(k:Nat)(x:α)(j:Nat) : (t.put k x).at j=if j=k then some x else t.at j:=by
 unfold T.put T.at;rw [T.get_setF _ _ _ _ _ (by simp) (by have:=zR (k+1);simpa using this) (by simp)];simp
theorem T.get_mk {α:Type}(l r:T α)(v:Option α)(k:Nat) : (T.mk l v r).get k= (T.node l v r).get k:=by
 cases l with
 |node a b c=>rfl
 | leaf=>cases v with
  |some x=>rfl
  | none=>cases r with
   |node a b c=>rfl
   | leaf=>
    rw [T.get_node];show none=_;split
    ·rfl
    ·split<;>rfl
theorem T.delF_node {α:Type}(f k:Nat)(l r:T α)(v:Option α) :
  T.delF (f+1) k (.node l v r) =if k=1 then T.mk l none r else if k % 2=0 then T.mk (T.delF f (k / 2) l) v r else T.mk l v (T.delF f (k / 2) r) :=by
 show(bif beq k 1 then T.mk l none r else bif beq (k % 2) 0 then T.mk (T.delF f (k / 2) l) v r else T.mk l v (T.delF f (k / 2) r)) =_;simp only [bH,cond_eq_ite,decide_eq_true_eq]
theorem T.get_delF {α:Type}:∀ (f k:Nat) (t:T α) (j:Nat),1≤k→k<2 ^ f→1≤j→ (T.delF f k t).get j=if j=k then none else t.get j:=by
 intro f
 induction f with
 |zero=>intro k t j h1 h2 _;simp at h2;omega
 | succ f ih=>
  intro k t j h1 h2 hj;have h2':k / 2<2 ^ f:=by rw [pow_succ]at h2;omega
  cases t with
  | leaf=>
   show(T.leaf:T α).get j=_;rw [T.get_leaf];simp
  | node l v r=>
   rw [T.delF_node];by_cases hk:k=1
   · simp only [hk,if_true,T.get_mk,T.get_node];by_cases h:j=1<;>simp [h]
   · simp only [hk,if_false];by_cases hm:k % 2=0
     · simp only [hm,if_true,T.get_mk,T.get_node];by_cases h:j=1
       ·simp [h,show ¬ (1=k)by omega]
       · simp only [h,if_false];by_cases hn:j % 2=0
         · simp only [hn,if_true];rw [ih _ _ _ (by omega) h2' (by omega)];by_cases e:j=k
           ·simp [e]
           ·simp [e,show ¬ (j / 2=k / 2)by omega]
         ·simp [hn,show ¬ (j=k)by omega]
     · simp only [hm,if_false,T.get_mk,T.get_node];by_cases h:j=1
       ·simp [h,show ¬ (1=k)by omega]
       · simp only [h,if_false];by_cases hn:j % 2=0
         ·simp [hn,show ¬ (j=k)by omega]
         · simp only [hn,if_false];rw [ih _ _ _ (by omega) h2' (by omega)];by_cases e:j=k
           ·simp [e]
           ·simp [e,show ¬ (j / 2=k / 2)by omega]
theorem T.at_del {α:Type}(t:T α)(k:Nat)(j:Nat) : (t.del k).at j=if j=k then none else t.at j:=by
 unfold T.del T.at;rw [T.get_delF _ _ _ _ (by simp) (by have:=zR (k+1);simpa using this) (by simp)];simp
theorem T.at_leaf {α:Type}(j:Nat) : (T.leaf:T α).at j=none:=rfl
theorem uR (vs:List AV) :∀ (t:T AV) (i j:Nat),(putCells t i vs).at j=if i≤j∧j<i+vs.length then vs[j-i]? else t.at j:=by
 induction vs with
 |nil=>intro t i j;simp [putCells,show ¬ (i≤j∧j<i)by omega]
 | cons v vs ih=>
  intro t i j;rw [putCells,ih,T.at_put];by_cases h:j=i
  ·subst h;simp [show ¬ (j+1≤j)by omega]
  · by_cases h2:i+1≤j∧j<i+1+vs.length
    · have h3:i≤j∧j<i+ (v::vs).length:=by simp;omega
      simp only [Nat.succ_eq_add_one,h2,h3,and_self,if_true];rw [show j-i= (j- (i+1)) +1 by omega];simp
    · have h3:¬ (i≤j∧j<i+ (v::vs).length) :=by simp;omega
      rw [if_neg (by simpa using h2),if_neg h3,if_neg h]
theorem mL {t:T AV}:∀ {n i:Nat} {vs:List AV},getCells t i n=some vs→vs.length=n∧∀j,j<n→t.at (i+j) =vs[j]?:=by
 intro n
 induction n with
 |zero=>intro i vs h;simp [getCells]at h;subst h;simp
 | succ n ih=>
  intro i vs h;simp only [getCells]at h;split at h
  ·cases h
  · rename_i v hv;split at h
    ·cases h
    · rename_i us hus;cases h;obtain⟨h1,h2⟩ :=ih hus;refine⟨by simp [h1],fun j hj=>?_⟩;cases j with
      |zero=>simpa using hv
      |succ j=>rw [show i+ (j+1) =Nat.succ i+j by omega,h2 j (by omega)];simp
theorem dU :∀ (l n:Nat),(aN l n).length=l:=by
 intro l;induction l with
 |zero=>intro n;rfl
 |succ l ih=>intro n;simp [aN,ih]
theorem eU :∀ (l:List UInt8),aN l.length (aC l) =l:=by
 intro l;induction l with
 |nil=>rfl
 | cons b bs ih=>
  have h1: (b.toNat+256*aC bs) % 256=b.toNat:=by have:=b.toNat_lt;omega
  have h2: (b.toNat+256*aC bs) / 256=aC bs:=by have:=b.toNat_lt;omega
  simp only [List.length_cons,aN,aC,h1,h2,ih];simp
theorem iQ :∀ (l n i:Nat),i<l→ (aN l n)[i]?=some (UInt8.ofNat (n / 256 ^ i % 256)) :=by
 intro l;induction l with
 |zero=>intro n i h;omega
 | succ l ih=>
  intro n i h;cases i with
  |zero=>simp [aN]
  | succ i=>
   simp only [aN,List.getElem?_cons_succ];rw [ih _ _ (by omega),Nat.div_div_eq_div_mul,pow_succ,mul_comm 256]
theorem aFM :∀ (k l n:Nat),(aN l n).drop k=aN (l-k) (n / 256 ^ k) :=by
 intro k l n;apply List.ext_getElem?;intro i;rw [List.getElem?_drop];by_cases h:k+i<l
 ·rw [iQ _ _ _ h,iQ _ _ _ (by omega),Nat.div_div_eq_div_mul,Nat.pow_add]
 ·rw [List.getElem?_eq_none (by rw [dU];omega),List.getElem?_eq_none (by rw [dU];omega)]
theorem aFN :∀ (k l n:Nat),k≤l→ (aN l n).take k=aN k n:=by
 intro k l n hk;apply List.ext_getElem?;intro i;by_cases h:i<k
 ·rw [List.getElem?_take_of_lt h,iQ _ _ _ h,iQ _ _ _ (by omega)]
 ·rw [List.getElem?_eq_none (by rw [List.length_take,dU];omega),List.getElem?_eq_none (by rw [dU];omega)]
theorem aAz :∀ (l n:Nat),aN l (n % 256 ^ l) =aN l n:=by
 intro l;induction l with
 |zero=>intro n;rfl
 | succ l ih=>
  intro n;simp only [aN];have h1:n % 256 ^ (l+1) % 256=n % 256:=Nat.mod_mod_of_dvd _ ⟨256 ^ l,by rw [pow_succ,mul_comm]⟩;have h2:n % 256 ^ (l+1) / 256=n / 256 % 256 ^ l:=by
   rw [pow_succ,mul_comm,Nat.mod_mul_right_div_self]
  rw [h1,h2,ih]
theorem aHi :∀ (l n m:Nat),aN l n=aN l m→n % 256 ^ l=m % 256 ^ l:=by
 intro l;induction l with
 |zero=>intro n m _;simp [Nat.mod_one]
 | succ l ih=>
  intro n m h;simp only [aN,List.cons.injEq]at h;have h1:n % 256=m % 256:=by
   have:=congrArg UInt8.toNat h.1;simpa using this
  have h2:=ih _ _ h.2;rw [pow_succ,mul_comm,mod_mul,mod_mul,h1,h2]
theorem aC2 :∀ (l n l' n':Nat),aN l n++aN l' n'=aN (l+l') (n % 256 ^ l+256 ^ l*n') :=by
 intro l;induction l with
 |zero=>intro n l' n';simp [aN,Nat.mod_one]
 | succ l ih=>
  intro n l' n';rw [show l+1+l'= (l+l') +1 by omega];simp only [aN,List.cons_append,ih];have e:n % 256 ^ (l+1) =n % 256+256* (n / 256 % 256 ^ l) :=by rw [pow_succ,mul_comm,mod_mul]
  have e2:256 ^ (l+1) *n'=256* (256 ^ l*n') :=by rw [pow_succ,mul_comm (256 ^ l),mul_assoc]
  have h1: (n % 256 ^ (l+1) +256 ^ (l+1) *n') % 256=n % 256:=by rw [e,e2];omega
  have h2: (n % 256 ^ (l+1) +256 ^ (l+1) *n') / 256=n / 256 % 256 ^ l+256 ^ l*n':=by rw [e,e2];omega
  rw [h1,h2]
def fU (l n:Nat) :ByteArray:= ⟨⟨aN l n⟩⟩
theorem lO (l n:Nat) : (fU l n).size=l:=by simp [fU,ByteArray.size,dU]
theorem wS (l n l' n':Nat) :iZ l n l' n'=decide (aN l n=aN l' n') :=by
 unfold iZ;rw [bH,bH];by_cases h:l=l'
 · subst h;simp only [decide_true,Bool.true_and];congr 1;apply propext;constructor
   · intro h;rw [←aAz l n,←aAz l n'];exact congrArg _ h
   ·exact aHi l n n'
 · have:aN l n≠aN l' n':=fun e=>h (by rw [←dU l n,e,dU]);simp [h,this]
section
structure Loc where
 blk:Nat
 sh:Nat
 sz:Nat
def hM :List Nat→Nat
 | [] =>0
 |a::r=>2 ^ a* (2*hM r+1)
theorem pow_odd :∀ (a b x y:Nat),2 ^ a* (2*x+1) =2 ^ b* (2*y+1) →a=b∧x=y
 |0,0,x,y,h=>by simp at h;exact⟨rfl,by omega⟩
 |0,b+1,x,y,h=>by rw [pow_succ,mul_comm (2 ^ b) 2,mul_assoc]at h;omega
 |a+1,0,x,y,h=>by rw [pow_succ,mul_comm (2 ^ a) 2,mul_assoc]at h;omega
 | a+1,b+1,x,y,h=>by
  rw [pow_succ,pow_succ,mul_comm (2 ^ a) 2,mul_comm (2 ^ b) 2,mul_assoc,mul_assoc]at h;obtain⟨h1,h2⟩ :=pow_odd a b x y (by omega);exact⟨by rw [h1],h2⟩
theorem aJO (a:Nat)(r:List Nat) :hM (a::r) ≠0:=by
 have:0<2 ^ a:=Nat.pow_pos (by omega);have h:0<2 ^ a* (2*hM r+1) :=Nat.mul_pos this (by omega);show 2 ^ a* (2*hM r+1) ≠0;omega
theorem aJP :∀ (l k:List Nat),hM l=hM k→l=k
 | [],[],_=>rfl
 | [],a::r,h=>absurd h.symm (aJO a r)
 |a::r,[],h=>absurd h (aJO a r)
 | a::r,b::s,h=>by
  obtain⟨h1,h2⟩ :=pow_odd a b _ _ h;rw [h1,aJP r s h2]
open Classical in
noncomputable def hR (n:Nat) :List Nat:=if h:∃l,hM l=n then h.choose else []
theorem aGa (l:List Nat) :hR (hM l) =l:=by
 have h:∃k,hM k=hM l:= ⟨l,rfl⟩;unfold hR;rw [dif_pos h];exact aJP _ _ h.choose_spec
structure Emb where
 loc:Nat→Option Loc
 imm:Nat→Option (Array Value)
instance : CoeFun Emb (fun _=>Nat→Option Loc) := ⟨Emb.loc⟩
def Emb.p (E:Emb) :Emb:= ⟨fun _=>none,E.imm⟩
def Emb.le (E E':Emb) :Prop:= (∀b L,E b=some L→E' b=some L) ∧∀k C,E.imm k=some C→E'.imm k=some C
theorem Emb.le.refl (E:Emb) :E.le E:= ⟨fun _ _ h=>h,fun _ _ h=>h⟩
theorem Emb.le.trans {A B C:Emb}(h:A.le B)(k:B.le C) :A.le C:= ⟨fun b L e=>k.1 b L (h.1 b L e),fun b L e=>k.2 b L (h.2 b L e)⟩
theorem Emb.le.pp {A B:Emb}(h:A.le B) :A.p.le B.p:= ⟨fun _ _ e=>e,h.2⟩
theorem Emb.p_le (A:Emb) :A.p.le A:= ⟨fun b L e=>by simp [Emb.p]at e,fun _ _ e=>e⟩
theorem Emb.pp (A:Emb) :A.p.p=A.p:=rfl
def Emb.put (E:Emb)(b:Nat)(L:Loc) :Emb:= ⟨fun x=>if x=b then some L else E x,E.imm⟩
theorem Emb.le_put {E:Emb}{b:Nat}{L:Loc}(h:E b=none) :E.le (E.put b L) := ⟨fun x M e=>by
 simp only [Emb.put];split
 ·rename_i hx;subst hx;rw [h]at e;cases e
 ·exact e,fun _ _ e=>e⟩
def flat (vs:List Value) :List Value:=vs.flatMap fun v=>v.cells.toList
def yO (e:Nat)(u:Value) :Prop:=u.cells.size=e∧∀c∈u.cells.toList,c.oneCell'=true
def ImmS (imm:Nat→Option (Array Value))(e:Nat)(ex:Bool)(v:Value)(vs:List Value) :Prop:=
 (∀u∈vs,yO e u) ∧ ((vs= [] ∧∃a cap,v= .slice a 0 cap∧ (a=none→cap=0) ∧ (ex=true→cap=0)) ∨
  ∃k a cap C,v= .slice (some ⟨k,a,none⟩) vs.length cap∧imm k=some C∧vs.length≤cap∧ (ex=true→cap=vs.length) ∧∀j,j<vs.length*e→C[a+j]?= (flat vs)[j]?)
theorem ImmS.mono {imm imm':Nat→Option (Array Value)}(h:∀k C,imm k=some C→imm' k=some C){e:Nat}{ex:Bool}{v:Value}{vs:List Value}(r:ImmS imm e ex v vs) :ImmS imm' e ex v vs:=by
 refine⟨r.1,?_⟩;rcases r.2 with g| ⟨k,a,cap,C,h1,h2,h3⟩
 ·exact .inl g
 ·exact .inr ⟨k,a,cap,C,h1,h _ _ h2,h3⟩
theorem Emb.put_same (E:Emb)(b:Nat)(L:Loc) :E.put b L b=some L:=by simp [Emb.put]
theorem Emb.put_ne (E:Emb){b x:Nat}(L:Loc)(h:x≠b) :E.put b L x=E x:=by simp [Emb.put,h]
mutual
def VR :Emb→AV→Value→Prop
 |_,.bool b,v=>v= .bool b
 |_,.int k n,v=>v= .int k n
 |_,.str l n,v=>v= .string (fU l n)
 |E,.ptr b o,v=>∃L,E b=some L∧v= .pointer (some ⟨L.blk,L.sh+o,none⟩)
 |_,.nilp,v=>v= .pointer none
 |E,.slice b o l c e x,v=>∃L off cap,E b=some L∧v= .slice (some ⟨L.blk,off,none⟩) l cap∧l≤c∧c≤cap∧ (x=true→cap=c) ∧ (cap≠0→off=L.sh+o) ∧off+cap*e≤L.sz
 |_,.nils,v=>v= .slice none 0 0
 |E,.map r,v=>∃L,E r=some L∧v= .map (some L.blk)
 |_,.nilm,v=>v= .map none
 |E,.func f fs cs,v=>∃a b,v= .func (.func f) ⟨a⟩ ⟨b⟩ ∧VRs E fs a∧VRs E cs b
 |E,.yield l,v=>∃L,E l=some L∧v= .func (.yield L.blk) #[] #[]
 |E,.meth n r,v=>∃u,v= .func (.method n) #[u] #[] ∧VR E r u
 |E,.via t f pr r,v=>∃u,v= .func (.via t #[] f pr) #[u] #[] ∧VR E r u
 |_,.nilf,v=>v= .nilFunc
 |E,.iface t a,v=>∃u,v= .iface t u∧VR E a u
 |_,.nili,v=>v= .nilIface
 |E,.agg vs,v=>∃us,v= .agg ⟨us⟩ ∧VRs E vs us
 |E,.tup vs,v=>∃us,v= .tuple ⟨us⟩ ∧VRs E vs us
 |E,.ilst e xs ex,v=>∃vs,VRs E.p xs vs∧ImmS E.imm e ex v vs
 |E,.iptr cs,v=>∃us,VRs E.p cs us∧∃k a C,v= .pointer (some ⟨k,a,none⟩) ∧E.imm k=some C∧∀j,j<us.length→C[a+j]?=us[j]?
 |E,.gl b e off len ex,v=> (len=0∧∃a,v= .slice a 0 0) ∨∃L a cap,E b=some L∧v= .slice (some ⟨L.blk,a,none⟩) len cap∧len≤cap∧ (ex=true→cap=len) ∧ (cap≠0→a=L.sh+off*e∧a+cap*e≤L.sz)
 |E,.ep b e i o,v=>∃L,E b=some L∧v= .pointer (some ⟨L.blk,L.sh+ (i*e+o),none⟩)
 |_,.val u,v=>v=u
def VRs :Emb→List AV→List Value→Prop
 |_,[],us=>us= []
 |E,a::aS,us=>∃u us',us=u::us'∧VR E a u∧VRs E aS us'
end
mutual
theorem VR.mono0 :∀ {E E':Emb},E.le E'→∀ (a:AV) (v:Value),VR E a v→VR E' a v
 |_,_,_,.bool _,_,r=>by simpa [VR]using r
 |_,_,_,.int _ _,_,r=>by simpa [VR]using r
 |_,_,_,.str _ _,_,r=>by simpa [VR]using r
 | _,_,h,.ptr _ _,_,r=>by
  simp only [VR]at r ⊢;obtain⟨L,h1,h2⟩ :=r;exact⟨L,h.1 _ _ h1,h2⟩
 |_,_,_,.nilp,_,r=>by simpa [VR]using r
 | _,_,h,.slice _ _ _ _ _ _,_,r=>by
  simp only [VR]at r ⊢;obtain⟨L,off,cap,h1,h2⟩ :=r;exact⟨L,off,cap,h.1 _ _ h1,h2⟩
 |_,_,_,.nils,_,r=>by simpa [VR]using r
 | _,_,h,.map _,_,r=>by
  simp only [VR]at r ⊢;obtain⟨L,h1,h2⟩ :=r;exact⟨L,h.1 _ _ h1,h2⟩
 |_,_,_,.nilm,_,r=>by simpa [VR]using r
 | _,_,h,.func _ fs cs,_,r=>by
  simp only [VR]at r ⊢;obtain⟨a,b,h1,h2,h3⟩ :=r;exact⟨a,b,h1,VRs.mono0 h fs a h2,VRs.mono0 h cs b h3⟩
 | _,_,h,.yield _,_,r=>by
  simp only [VR]at r ⊢;obtain⟨L,h1,h2⟩ :=r;exact⟨L,h.1 _ _ h1,h2⟩
 | _,_,h,.meth _ a,_,r=>by
  simp only [VR]at r ⊢;obtain⟨u,h1,h2⟩ :=r;exact⟨u,h1,VR.mono0 h a u h2⟩
 | _,_,h,.via _ _ _ a,_,r=>by
  simp only [VR]at r ⊢;obtain⟨u,h1,h2⟩ :=r;exact⟨u,h1,VR.mono0 h a u h2⟩
 |_,_,_,.nilf,_,r=>by simpa [VR]using r
 | _,_,h,.iface _ a,_,r=>by
  simp only [VR]at r ⊢;obtain⟨u,h1,h2⟩ :=r;exact⟨u,h1,VR.mono0 h a u h2⟩
 |_,_,_,.nili,_,r=>by simpa [VR]using r
 | _,_,h,.agg vs,_,r=>by
  simp only [VR]at r ⊢;obtain⟨u,h1,h2⟩ :=r;exact⟨u,h1,VRs.mono0 h vs u h2⟩
 | _,_,h,.tup vs,_,r=>by
  simp only [VR]at r ⊢;obtain⟨u,h1,h2⟩ :=r;exact⟨u,h1,VRs.mono0 h vs u h2⟩
 | _,_,h,.ilst _ xs _,_,r=>by
  simp only [VR]at r ⊢;obtain⟨vs,h1,h2⟩ :=r;exact⟨vs,VRs.mono0 h.pp xs vs h1,h2.mono h.2⟩
 | _,_,h,.iptr cs,_,r=>by
  simp only [VR]at r ⊢;obtain⟨us,h1,k,a,C,h2,h3,h4⟩ :=r;exact⟨us,VRs.mono0 h.pp cs us h1,k,a,C,h2,h.2 _ _ h3,h4⟩
 | _,_,h,.gl _ _ _ _ _,_,r=>by
  simp only [VR]at r ⊢;rcases r with g| ⟨L,a,cap,h1,h2⟩
  ·exact .inl g
  ·exact .inr ⟨L,a,cap,h.1 _ _ h1,h2⟩
 | _,_,h,.ep _ _ _ _,_,r=>by
  simp only [VR]at r ⊢;obtain⟨L,h1,h2⟩ :=r;exact⟨L,h.1 _ _ h1,h2⟩
 |_,_,_,.val _,_,r=>by simpa [VR]using r
theorem VRs.mono0 :∀ {E E':Emb},E.le E'→∀ (aS:List AV) (vs:List Value),VRs E aS vs→VRs E' aS vs
 |_,_,_,[],_,r=>by simpa [VRs]using r
 | _,_,h,a::aS,_,r=>by
  simp only [VRs]at r ⊢;obtain⟨u,us,h1,h2,h3⟩ :=r;exact⟨u,us,h1,VR.mono0 h a u h2,VRs.mono0 h aS us h3⟩
end
theorem VR.mono {E E':Emb}(h:E.le E')(a:AV)(v:Value)(r:VR E a v) :VR E' a v:=VR.mono0 h a v r
theorem VRs.mono {E E':Emb}(h:E.le E')(aS:List AV)(vs:List Value)(r:VRs E aS vs) :VRs E' aS vs:=VRs.mono0 h aS vs r
theorem VRs.nil (E:Emb) :VRs E [] [] :=by simp [VRs]
theorem VRs.cons {E:Emb}{a:AV}{v:Value}{aS:List AV}{vs:List Value}(h:VR E a v)(k:VRs E aS vs) :VRs E (a::aS) (v::vs) :=by
 simp only [VRs];exact⟨v,vs,rfl,h,k⟩
theorem VRs.nil_inv {E:Emb}{vs:List Value}(h:VRs E [] vs) :vs= [] :=by simpa [VRs]using h
theorem VRs.cons_inv {E:Emb}{a:AV}{aS:List AV}{vs:List Value}(h:VRs E (a::aS) vs) :∃u us,vs=u::us∧VR E a u∧VRs E aS us:=by
 simpa [VRs]using h
theorem VRs.length {E:Emb}:∀ {aS:List AV} {vs:List Value},VRs E aS vs→vs.length=aS.length
 | [],_,h=>by rw [h.nil_inv];rfl
 |_::_,_,h=>by obtain⟨u,us,rfl,_,h2⟩ :=h.cons_inv;simp [h2.length]
theorem VRs.get {E:Emb}:∀ {aS:List AV} {vs:List Value},VRs E aS vs→∀ (i:Nat) (a:AV),aS[i]?=some a→∃v,vs[i]?=some v∧VR E a v
 | [],_,_,i,a,e=>by simp at e
 | x::xs,_,h,i,a,e=>by
  obtain⟨u,us,rfl,h1,h2⟩ :=h.cons_inv;cases i with
  |zero=>simp at e;subst e;exact⟨u,rfl,h1⟩
  |succ i=>simp at e;obtain⟨v,hv,hr⟩ :=h2.get i a e;exact⟨v,by simpa using hv,hr⟩
theorem VRs.of_get {E:Emb}:∀ {aS:List AV} {vs:List Value},vs.length=aS.length→ (∀ (i:Nat) (a:AV),aS[i]?=some a→∃v,vs[i]?=some v∧VR E a v) →VRs E aS vs
 | [],vs,h,_=>by cases vs with|nil=>exact VRs.nil E|cons _ _=>simp at h
 | x ::xs,vs,h,k=>by
  cases vs with
  |nil=>simp at h
  | cons u us=>
   obtain⟨v,hv,hr⟩ :=k 0 x rfl;simp at hv;subst hv
   exact VRs.cons hr (VRs.of_get (by simpa using h) fun i a e=>by
    obtain⟨v,hv,hr⟩ :=k (i+1) a (by simpa using e);exact⟨v,by simpa using hv,hr⟩)
theorem VRs.append {E:Emb}:∀ {aS bs:List AV} {us vs:List Value},VRs E aS us→VRs E bs vs→VRs E (aS++bs) (us++vs)
 | [],_,_,_,h,k=>by rw [h.nil_inv];exact k
 |_::_,_,_,_,h,k=>by obtain⟨u,us,rfl,h1,h2⟩ :=h.cons_inv;exact VRs.cons h1 (h2.append k)
theorem VRs.take {E:Emb}{aS:List AV}{vs:List Value}(h:VRs E aS vs)(n:Nat) :VRs E (aS.take n) (vs.take n) :=by
 refine VRs.of_get (by simp [h.length]) fun i a e=>?_;rw [List.getElem?_take]at e ⊢;split at e
 ·rename_i hi;simp only [hi,if_true];exact h.get i a e
 ·cases e
theorem VRs.drop {E:Emb}{aS:List AV}{vs:List Value}(h:VRs E aS vs)(n:Nat) :VRs E (aS.drop n) (vs.drop n) :=by
 refine VRs.of_get (by simp [h.length]) fun i a e=>?_;rw [List.getElem?_drop]at e ⊢;exact h.get _ a e
theorem VR.cells {E:Emb}{a:AV}{v:Value}(h:VR E a v) :VRs E a.cells v.cells.toList:=by
 cases a<;>simp only [VR]at h<;>simp only [AV.cells]
 case agg vs=>obtain⟨us,rfl,h⟩ :=h;exact h
 case val u=>
  subst h
  induction v.cells.toList with
  |nil=>exact VRs.nil E
  |cons c cs ih=>exact VRs.cons (by simp [VR]) ih
 case ilst e xs ex=>
  obtain⟨vs,h1,h2⟩ :=h;have hv:v.cells.toList= [v] :=by rcases h2.2 with⟨_,_,_,rfl,_⟩ | ⟨_,_,_,_,rfl,_⟩ <;>rfl
  rw [hv];exact VRs.cons (by simp only [VR];exact⟨vs,h1,h2⟩) (VRs.nil E)
 case iptr cs=>
  obtain⟨us,h1,k,a,C,rfl,h2⟩ :=h;exact VRs.cons (by simp only [VR];exact⟨us,h1,k,a,C,rfl,h2⟩) (VRs.nil E)
 case gl b e off len ex=>
  have hv:v.cells.toList= [v] :=by rcases h with⟨_,_,rfl⟩ | ⟨_,_,_,_,rfl,_⟩ <;>rfl
  rw [hv];exact VRs.cons (by simp only [VR];exact h) (VRs.nil E)
 all_goals (first
  | (subst h;exact VRs.cons (by simp [VR]) (VRs.nil E))
  | (obtain⟨L,h1,rfl⟩ :=h;exact VRs.cons (by simp only [VR];exact⟨L,h1,rfl⟩) (VRs.nil E))
  | (obtain⟨L,off,cap,h1,rfl,h2⟩ :=h;exact VRs.cons (by simp only [VR];exact⟨L,off,cap,h1,rfl,h2⟩) (VRs.nil E))
  | (obtain⟨a,b,rfl,h2,h3⟩ :=h;exact VRs.cons (by simp only [VR];exact⟨a,b,rfl,h2,h3⟩) (VRs.nil E))
  | (obtain⟨u,rfl,h2⟩ :=h;exact VRs.cons (by simp only [VR];exact⟨u,rfl,h2⟩) (VRs.nil E)))
theorem VR.one {E:Emb}{a:AV}{v:Value}(h:VR E a v)(ha:a.one=true) :v.oneCell'=true:=by
 cases a<;>simp only [VR]at h<;>simp only [AV.one,Bool.false_eq_true]at ha
 case ilst e xs ex=>obtain⟨vs,h1,h2⟩ :=h;rcases h2.2 with⟨_,_,_,rfl,_⟩ | ⟨_,_,_,_,rfl,_⟩ <;>rfl
 case iptr cs=>obtain⟨us,h1,k,a,C,rfl,h2⟩ :=h;rfl
 case gl b e off len ex=>rcases h with⟨_,_,rfl⟩ | ⟨_,_,_,_,rfl,_⟩ <;>rfl
 case val u=>subst h;cases v<;>first|rfl|cases ha
 all_goals (first
  | (subst h;rfl)
  | (obtain⟨L,h1,rfl⟩ :=h;rfl)
  | (obtain⟨L,off,cap,h1,rfl,h2⟩ :=h;rfl)
  | (obtain⟨a,b,rfl,h2,h3⟩ :=h;rfl)
  | (obtain⟨u,rfl,h2⟩ :=h;rfl))
theorem aBI {v:Value}{a:AV}(h:aDP v=some a)(E:Emb) :VR E a v:=by
 unfold aDP at h;split at h<;>cases h<;>simp only [VR]
 · rename_i s;have:=eU s.data.toList;simp only [Array.length_toList]at this;simp only [fU,this]
 ·exact⟨[],[],rfl,VRs.nil E,VRs.nil E⟩
theorem aCu :∀ {vs:List Value} {aS:List AV},aAw vs=some aS→∀E,VRs E aS vs
 | [],_,h,E=>by simp [aAw]at h;subst h;exact VRs.nil E
 | v::vs,_,h,E=>by
  simp only [aAw]at h;split at h
  ·rename_i a aS h1 h2;cases h;exact VRs.cons (aBI h1 E) (aCu h2 E)
  ·cases h
theorem aDT {v:Value}{a:AV}(h:aPD v=some a)(E:Emb) :VR E a v:=by
 unfold aPD at h;split at h
 · split at h
   ·rename_i l hl;cases h;simp only [VR];exact⟨_,rfl,aCu hl E⟩
   ·cases h
 ·cases h;simp only [AV.undef,VR];exact⟨[],rfl,VRs.nil E⟩
 · split at h
   ·rename_i a ha;cases h;simp only [VR];exact⟨_,rfl,aBI ha E⟩
   ·cases h
 ·exact aBI h E
def TR (E:Emb)(tm:T AV)(nt:Nat)(tmps:Array Value) :Prop:=
 tmps.size=nt∧∀t a,tm.at t=some a→∃v,tmps[t]?=some v∧VR E a v
theorem TR.mono {E E':Emb}(h:E.le E'){tm:T AV}{nt:Nat}{tmps:Array Value}(r:TR E tm nt tmps) :TR E' tm nt tmps:=
 ⟨r.1,fun t a e=>by obtain⟨v,h1,h2⟩ :=r.2 t a e;exact⟨v,h1,h2.mono h⟩⟩
def ERs (E:Emb) :List (AV×AV×Nat) →List MapEntry→Prop
 | [],us=>us= []
 |a::aS,us=>∃u us',us=u::us'∧VR E a.1 u.key∧VR E a.2.1 u.val∧u.born=a.2.2∧ERs E aS us'
theorem ERs.mono {E E':Emb}(h:E.le E') :∀ {aS:List (AV×AV×Nat)} {us:List MapEntry},ERs E aS us→ERs E' aS us
 | [],_,r=>by simpa [ERs]using r
 | _::_,_,r=>by
  simp only [ERs]at r ⊢;obtain⟨u,us',h1,h2,h3,h4,h5⟩ :=r;exact⟨u,us',h1,h2.mono h,h3.mono h,h4,ERs.mono h h5⟩
theorem ERs.split {E:Emb}:∀ {aS bs:List (AV×AV×Nat)} {us:List MapEntry},ERs E (aS++bs) us→∃vs ws,us=vs++ws∧ERs E aS vs∧ERs E bs ws
 | [],_,us,r=> ⟨[],us,rfl,rfl,r⟩
 | _::_,_,_,r=>by
  simp only [List.cons_append,ERs]at r;obtain⟨u,us',rfl,h2,h3,h4,h5⟩ :=r;obtain⟨vs,ws,rfl,g2,g3⟩ :=ERs.split h5;exact⟨u::vs,ws,rfl,⟨u,vs,rfl,h2,h3,h4,g2⟩,g3⟩
theorem ERs.join {E:Emb}:∀ {aS bs:List (AV×AV×Nat)} {vs ws:List MapEntry},ERs E aS vs→ERs E bs ws→ERs E (aS++bs) (vs++ws)
 | [],_,_,_,h,g=>by simp only [ERs]at h;subst h;exact g
 | _::_,_,_,_,h,g=>by
  simp only [ERs]at h;obtain⟨u,us',rfl,h2,h3,h4,h5⟩ :=h;exact⟨u,us'++_,rfl,h2,h3,h4,ERs.join h5 g⟩
theorem rX {f g:Nat→Option Loc}(h:∀b L,f b=some L→g b=some L) :∀ {rs:List Nat} {Ls:List Loc},List.map f rs=List.map some Ls→List.map g rs=List.map some Ls
 | [],[],_=>rfl
 | [],_::_,e=>by simp at e
 |_::_,[],e=>by simp at e
 | r::rs,L::Ls,e=>by
  simp only [List.map_cons,List.cons.injEq]at e ⊢;exact⟨h _ _ e.1,rX h e.2⟩
noncomputable def fpz (own:Bool)(L:Loc) :List Nat:=bif own then hR L.blk else []
def OR (E:Emb)(H:Array Obj)(L:Loc) :AObj→Prop
 | .cells t n _ _=>∃C elem,H[L.blk]?=some (.cells C elem (0,0)) ∧C.size=L.sz∧∀i a,t.at i=some a→i<n∧∃v,C[L.sh+i]?=some v∧VR E a v
 | .map es clock=>∃ES:Array MapEntry,H[L.blk]?=some (.map ES clock) ∧ERs E es ES.toList
 | .siter l n pos=>H[L.blk]?=some (.stringIter (fU l n) pos) ∧L.sh=0
 | .mapx es c k v=>∃ES:Array MapEntry,H[L.blk]?=some (.map ES (Nat.succ c)) ∧ERs E (es++ [(k,v,c)]) ES.toList∧∀ (E1 E2:Emb) (us:List MapEntry),E1.imm=E2.imm→ERs E1 es us→ERs E2 es us
 | .loop st pe fn tm nt ps aS bd df=>∃tmps Ld,H[L.blk]?=some (.loop {state:=st,pending:=pe,fn,tmps,params:= ⟨ps⟩,assign:=aS,body:=bd,defers:=Ld.blk}) ∧E df=some Ld∧TR E tm nt tmps
 | .defd taken=>H[L.blk]?=some (.deferred (if taken then none else some []))
 | .miter m since seen last=>∃Lm,H[L.blk]?=some (.mapIter (some Lm.blk) since ⟨seen⟩ last) ∧E m=some Lm∧L.sh=0
 | .lstv u e xs=>∃C elem vs,H[L.blk]?=some (.cells C elem (0,0)) ∧C.size=L.sz∧VRs E xs vs∧ (∀u∈vs,yO e u) ∧ (∀j,j<vs.length*e→C[L.sh+j]?= (flat vs)[j]?) ∧
   ∃a cap,u= .slice (some ⟨L.blk,a,none⟩) xs.length cap∧xs.length≤cap∧ (cap≠0→a=L.sh∧a+cap*e≤L.sz)
 | .lst e xs=>∃C elem vs,H[L.blk]?=some (.cells C elem (0,0)) ∧C.size=L.sz∧VRs E xs vs∧ (∀u∈vs,yO e u) ∧∀j,j<vs.length*e→C[L.sh+j]?= (flat vs)[j]?
 | .zone w rs Z=> (∀i∈fpz w L,∃C e,H[i]?=some (.cells C e (0,0))) ∧∃Ls:List Loc,List.map E.loc rs=List.map some Ls∧∀ (imm':Nat→Option (Array Value)) (H':Array Obj),(∀k C,E.imm k=some C→imm' k=some C) → (∀i∈fpz w L,H'[i]?=H[i]?) →Z (fpz w L) (List.map (fun K=> (K.blk,K.sh,K.sz)) Ls) imm' H'
def Own :AObj→Loc→Nat→Prop
 | .zone w _ _,L,i=>i∈fpz w L
 |_,L,i=>L.blk=i
def one1 :AObj→Bool
 | .zone .. =>false
 |_=>true
theorem bY {o:AObj}(h:one1 o=true){L:Loc}{i:Nat}:Own o L i↔L.blk=i:=by
 cases o with
 |zone w0 r0 Z=>cases h
 |_=>exact Iff.rfl
def Meet (o o':AObj)(L L':Loc) :Prop:=∃i,Own o L i∧Own o' L' i
theorem Meet.symm {o o':AObj}{L L':Loc}(h:Meet o o' L L') :Meet o' o L' L:=by obtain⟨i,a,b⟩ :=h;exact⟨i,b,a⟩
theorem OR.mono {E E':Emb}(h:E.le E'){H:Array Obj}{L:Loc}{o:AObj}(r:OR E H L o) :OR E' H L o:=by
 cases o with
 | cells t n older sup=>
  obtain⟨C,elem,h1,h2,h3⟩ :=r;exact⟨C,elem,h1,h2,fun i a e=>by obtain⟨g1,v,g2,g3⟩ :=h3 i a e;exact⟨g1,v,g2,g3.mono h⟩⟩
 |map es clock=>obtain⟨ES,h1,h2⟩ :=r;exact⟨ES,h1,h2.mono h⟩
 |siter l n pos=>exact r
 |loop st pe fn tm nt ps aS bd df=>obtain⟨tmps,Ld,h1,h2,h3⟩ :=r;exact⟨tmps,Ld,h1,h.1 _ _ h2,h3.mono h⟩
 |defd t=>exact r
 |lst e xs=>obtain⟨C,elem,vs,h1,h2,h3,h4⟩ :=r;exact⟨C,elem,vs,h1,h2,h3.mono h,h4⟩
 |lstv u e xs=>obtain⟨C,elem,vs,h1,h2,h3,h4⟩ :=r;exact⟨C,elem,vs,h1,h2,h3.mono h,h4⟩
 |miter m s l n=>obtain⟨Lm,h1,h2,h3⟩ :=r;exact⟨Lm,h1,h.1 _ _ h2,h3⟩
 |mapx es c k v=>obtain⟨ES,h1,h2,h3⟩ :=r;exact⟨ES,h1,h2.mono h,h3⟩
 |zone w0 r0 Z=>obtain⟨r1,Lr,r2,r3⟩ :=r;exact⟨r1,Lr,rX h.1 r2,fun imm' H' hi hH=>r3 imm' H' (fun k C e=>hi k C (h.2 k C e)) hH⟩
theorem OR.there {E:Emb}{H:Array Obj}{L:Loc}{o:AObj}(r:OR E H L o)(ho:one1 o=true) :∃ob,H[L.blk]?=some ob:=by
 cases o with
 |cells t n older sup=>obtain⟨C,elem,h1,_⟩ :=r;exact⟨_,h1⟩
 |map es clock=>obtain⟨ES,h1,_⟩ :=r;exact⟨_,h1⟩
 |siter l n pos=>exact⟨_,r.1⟩
 |loop st pe fn tm nt ps aS bd df=>obtain⟨_,_,h1,_⟩ :=r;exact⟨_,h1⟩
 |defd t=>exact⟨_,r⟩
 |lst e xs=>obtain⟨C,elem,vs,h1,_⟩ :=r;exact⟨_,h1⟩
 |lstv u e xs=>obtain⟨C,elem,vs,h1,_⟩ :=r;exact⟨_,h1⟩
 |miter m s l n=>obtain⟨Lm,h1,_⟩ :=r;exact⟨_,h1⟩
 |mapx es c k v=>obtain⟨ES,h1,_⟩ :=r;exact⟨_,h1⟩
 |zone w0 r0 Z=>cases ho
theorem OR.lt {E:Emb}{H:Array Obj}{L:Loc}{o:AObj}(r:OR E H L o) :∀i,Own o L i→i<H.size:=by
 intro i hi;cases h1:one1 o with
 | true=>
  rw [bY h1]at hi;subst hi;obtain⟨ob,h⟩ :=r.there h1;exact(Array.getElem?_eq_some_iff.1 h).1
 | false=>
  cases o with
  |zone w0 r0 Z=>obtain⟨C,e,h⟩ :=r.1 i hi;exact(Array.getElem?_eq_some_iff.1 h).1
  |_=>cases h1
theorem OR.heap {E:Emb}{H H':Array Obj}{L:Loc}{o:AObj}(r:OR E H L o)(h:∀i,Own o L i→H'[i]?=H[i]?) :OR E H' L o:=by
 cases o with
 |zone w0 r0 Z=>obtain⟨r1,Lr,r2,r3⟩ :=r;exact⟨fun i hi=>by rw [h i hi];exact r1 i hi,Lr,r2,fun imm' H2 hm hH=>r3 imm' H2 hm (fun i hi=> (hH i hi).trans (h i hi))⟩
 |_=>have h:=h _ rfl;simp only [OR,h]at r ⊢;exact r
def bQ :AObj→List Nat
 | .cells _ _ k _=>k
 |_=>[]
def hU :AObj→Bool
 | .cells _ _ _ s=>s
 |_=>false
def nOf :AObj→Nat
 | .cells _ n _ _=>n
 |_=>0
def Kin (b b':Nat)(o o':AObj)(L L':Loc) :Prop:= (b'∈bQ o∧hU o'=true∧L'.sh+nOf o'≤L.sh+nOf o) ∨ (b∈bQ o'∧hU o=true∧L.sh+nOf o≤L'.sh+nOf o')
def jK :AObj→Bool
 | .lst _ [] =>true
 |_=>false
structure Rel (E:Emb) (h:Hp) (H:Array Obj) :Prop where
 obj0:∀b o,h.look b=some o→ (jK o=true∧E b=none) ∨∃L,E b=some L∧OR E H L o
 kin:∀b b' o o' L L',h.look b=some o→h.look b'=some o'→E b=some L→E b'=some L'→Meet o o' L L'→b≠b'→Kin b b' o o' L L'
 fresh:∀b,h.nb≤b→E b=none
 imm:∀k C,E.imm k=some C→∃e f,H[k]?=some (.cells C e f)
 apart:∀b o L,h.look b=some o→E b=some L→∀i,Own o L i→E.imm i=none
 keys:∀b o,h.look b=some o→b<h.nb
theorem Rel.obj {E:Emb}{h:Hp}{H:Array Obj}(r:Rel E h H)(b:Nat)(o:AObj)(hb:h.look b=some o)(hu:jK o=false:=by rfl) :∃L,E b=some L∧OR E H L o:=by
 rcases r.obj0 b o hb with⟨h1,_⟩ |g
 ·rw [hu]at h1;cases h1
 ·exact g
theorem Rel.objL {E:Emb}{h:Hp}{H:Array Obj}(r:Rel E h H){b:Nat}{o:AObj}(hb:h.look b=some o){L:Loc}(hE:E b=some L) :OR E H L o:=by
 rcases r.obj0 b o hb with⟨_,h1⟩ | ⟨L',h1,h2⟩
 ·rw [hE]at h1;cases h1
 ·rw [hE]at h1;cases h1;exact h2
theorem Rel.immLt {E:Emb}{h:Hp}{H:Array Obj}(r:Rel E h H){k:Nat}{C:Array Value}(hk:E.imm k=some C) :k<H.size:=by
 obtain⟨e,f,h1⟩ :=r.imm k C hk;exact(Array.getElem?_eq_some_iff.1 h1).1
def noFrz :Obj→Bool
 | .cells _ _ f=>f== (0,0)
 |_=>true
theorem rY {w:World}{a:Addr}{ob:Obj}(h:w.heap[a.block]?=some ob)(hz:noFrz ob=true) :w.frozen? a=false:=by
 unfold World.frozen?;rw [h];cases ob with
 | cells c e f=>
  simp only [noFrz,beq_iff_eq]at hz;subst hz;simp
 |_=>rfl
theorem uS (w:World){ob:Obj}(hz:noFrz ob=true)(a:Addr) : ({w with heap:=w.heap.push ob}:World).frozen? a=w.frozen? a:=by
 by_cases ha:a.block=w.heap.size
 · rw [rY (w:={w with heap:=w.heap.push ob}) (ob:=ob) (by rw [ha];simp) hz];unfold World.frozen?;rw [Array.getElem?_eq_none (by omega)]
 · unfold World.frozen?;simp only [Array.getElem?_push,ha,if_false]
theorem rZ {w:World}{i:Nat}{ob ob':Obj}(hi:w.heap[i]?=some ob)(h1:noFrz ob=true)(h2:noFrz ob'=true)(a:Addr) : ({w with heap:=w.heap.setIfInBounds i ob'}:World).frozen? a=w.frozen? a:=by
 by_cases ha:i=a.block
 · subst ha;have:= (Array.getElem?_eq_some_iff.1 hi).1;rw [rY (w:={w with heap:=w.heap.setIfInBounds a.block ob'}) (ob:=ob') (by simp [this]) h2,rY hi h1]
 · unfold World.frozen?;simp only [Array.getElem?_setIfInBounds_ne ha]
theorem OR.noFrz {E:Emb}{H:Array Obj}{L:Loc}{o:AObj}(r:OR E H L o)(ho:one1 o=true) :∃ob,H[L.blk]?=some ob∧Hb.noFrz ob=true:=by
 cases o with
 |zone w0 r0 Z=>cases ho
 |cells t n older sup=>obtain⟨C,elem,h1,_⟩ :=r;exact⟨_,h1,rfl⟩
 |map es clock=>obtain⟨ES,h1,_⟩ :=r;exact⟨_,h1,rfl⟩
 |siter l n pos=>exact⟨_,r.1,rfl⟩
 |loop st pe fn tm nt ps aS bd df=>obtain⟨_,_,h1,_⟩ :=r;exact⟨_,h1,rfl⟩
 |defd t=>exact⟨_,r,rfl⟩
 |lst e xs=>obtain⟨C,elem,vs,h1,_⟩ :=r;exact⟨_,h1,rfl⟩
 |lstv u e xs=>obtain⟨C,elem,vs,h1,_⟩ :=r;exact⟨_,h1,rfl⟩
 |miter m s l n=>obtain⟨Lm,h1,_⟩ :=r;exact⟨_,h1,rfl⟩
 |mapx es c k v=>obtain⟨ES,h1,_⟩ :=r;exact⟨_,h1,rfl⟩
structure Ext (E:Emb) (h:Hp) (w:World) (E':Emb) (h':Hp) (w':World) :Prop where
 le:E.le E'
 size:w.heap.size≤w'.heap.size
 keep:∀i,i<w.heap.size→ (∀b o L,h.look b=some o→E b=some L→¬Own o L i) →w'.heap[i]?=w.heap[i]?
 own:∀b' o' L',h'.look b'=some o'→E' b'=some L'→∀i,Own o' L' i→i<w.heap.size→∃b o L,h.look b=some o∧E b=some L∧Own o L i
 nb:h.nb≤h'.nb
 os:w'.os=w.os
 tape:w'.tape=w.tape
 output:w'.output=w.output
 low:∀b,b<h.nb→E' b=E b
 froz:∀a,a.block<w.heap.size→w'.frozen? a=w.frozen? a
 immo:∀k C,E'.imm k=some C→k<w.heap.size→E.imm k=some C∨∃b o L,h.look b=some o∧E b=some L∧Own o L k
 keys:∀b o,h'.look b=some o→b<h.nb→∃o0,h.look b=some o0
theorem Ext.refl (E:Emb)(h:Hp)(w:World) :Ext E h w E h w:=
 ⟨Emb.le.refl E,le_refl _,fun _ _ _=>rfl,fun b o L h1 h2 i hi _=> ⟨b,o,L,h1,h2,hi⟩,le_refl _,rfl,rfl,rfl,fun _ _=>rfl,fun _ _=>rfl,fun _ _ e _=>.inl e,fun _ o e _=> ⟨o,e⟩⟩
theorem Ext.trans {E1 E2 E3:Emb}{h1 h2 h3:Hp}{w1 w2 w3:World}(a:Ext E1 h1 w1 E2 h2 w2)(b:Ext E2 h2 w2 E3 h3 w3) :Ext E1 h1 w1 E3 h3 w3 where
 le:=a.le.trans b.le
 size:=le_trans a.size b.size
 keep:=fun i hi hn=>by
  rw [b.keep i (lt_of_lt_of_le hi a.size) fun x o L hx hE hb=>by
   obtain⟨b0,o0,L0,g1,g2,g3⟩ :=a.own x o L hx hE i hb hi;exact hn b0 o0 L0 g1 g2 g3]
  exact a.keep i hi hn
 own:=fun x o L hx hE i hi hlt=>by
  obtain⟨b2,o2,L2,g1,g2,g3⟩ :=b.own x o L hx hE i hi (lt_of_lt_of_le hlt a.size);exact a.own b2 o2 L2 g1 g2 i g3 hlt
 nb:=le_trans a.nb b.nb
 os:=b.os.trans a.os
 tape:=b.tape.trans a.tape
 output:=b.output.trans a.output
 low:=fun x hx=> (b.low x (lt_of_lt_of_le hx a.nb)).trans (a.low x hx)
 froz:=fun x hx=> (b.froz x (lt_of_lt_of_le hx a.size)).trans (a.froz x hx)
 immo:=fun k C e hk=>by
  rcases b.immo k C e (lt_of_lt_of_le hk a.size)with g| ⟨x,o,L,g1,g2,g3⟩
  ·exact a.immo k C g hk
  ·exact .inr (a.own x o L g1 g2 k g3 hk)
 keys:=fun x o e hx=>by
  obtain⟨o1,e1⟩ :=b.keys x o e (lt_of_lt_of_le hx a.nb);exact a.keys x o1 e1 hx
theorem aX (h:Hp)(b:Nat)(o:AObj)(x:Nat) : (h.set b o).look x=if x=b then some o else h.look x:=T.at_put _ _ _ _
theorem kV (h:Hp)(b:Nat)(x:Nat) : (h.del b).look x=if x=b then none else h.look x:=T.at_del _ _ _
theorem cC (h:Hp)(o:AObj)(x:Nat) : (h.new o).look x=if x=h.nb then some o else h.look x:=T.at_put _ _ _ _
theorem nC (h:Hp)(o:AObj) : (h.new o).nb=h.nb+1:=rfl
theorem hX (h:Hp)(b:Nat)(o:AObj) : (h.set b o).nb=h.nb:=rfl
theorem aHj (h:Hp)(b:Nat) : (h.del b).nb=h.nb:=rfl
theorem cD :∀ (bs:List Nat) (h:Hp) (x:Nat),(h.delAll bs).look x=if x∈bs then none else h.look x
 | [],h,x=>by simp [Hp.delAll]
 | b::bs,h,x=>by
  rw [Hp.delAll,cD bs,kV];by_cases h1:x∈bs
  ·simp [h1]
  ·by_cases h2:x=b<;>simp [h1,h2]
theorem lP :∀ (bs:List Nat) (h:Hp),(h.delAll bs).nb=h.nb
 | [],_=>rfl
 |b::bs,h=>by rw [Hp.delAll,lP bs];rfl
theorem Rel.sub {E:Emb}{h h':Hp}{H:Array Obj}(r:Rel E h H)(hs:∀b o,h'.look b=some o→h.look b=some o)(hn:h.nb≤h'.nb) :Rel E h' H where
 obj0:=fun b o e=>r.obj0 b o (hs b o e)
 imm:=r.imm
 apart:=fun b o L e=>r.apart b o L (hs _ _ e)
 keys:=fun b o e=>lt_of_lt_of_le (r.keys b o (hs _ _ e)) hn
 kin:=fun b b' o o' L L' e e'=>r.kin b b' o o' L L' (hs _ _ e) (hs _ _ e')
 fresh:=fun b e=>r.fresh b (le_trans hn e)
theorem Rel.lt {E:Emb}{h:Hp}{H:Array Obj}(r:Rel E h H){b:Nat}{o:AObj}{L:Loc}(hb:h.look b=some o)(hE:E b=some L) :∀i,Own o L i→i<H.size:= (r.objL hb hE).lt
theorem Rel.nb_gt {E:Emb}{h:Hp}{H:Array Obj}(r:Rel E h H){b:Nat}{L:Loc}(hE:E b=some L) :b<h.nb:=by
 rcases Nat.lt_or_ge b h.nb with g|g
 ·exact g
 ·rw [r.fresh b g]at hE;cases hE
theorem Rel.new {E:Emb}{h:Hp}{w:World}(r:Rel E h w.heap)(o:AObj)(ob:Obj)(sz:Nat)
  (ho:∀ (E':Emb) (H':Array Obj),E.le E'→E' h.nb=some ⟨w.heap.size,0,sz⟩ →H'[w.heap.size]?=some ob→OR E' H' ⟨w.heap.size,0,sz⟩ o)  (hz:noFrz ob=true:=by rfl) (hone:one1 o=true:=by rfl) :
  Rel (E.put h.nb ⟨w.heap.size,0,sz⟩) (h.new o) (w.heap.push ob) ∧Ext E h w (E.put h.nb ⟨w.heap.size,0,sz⟩) (h.new o) {w with heap:=w.heap.push ob}:=by
 have hf:E h.nb=none:=r.fresh _ (le_refl _);have hle:E.le (E.put h.nb ⟨w.heap.size,0,sz⟩) :=Emb.le_put hf;have hold:∀ {i},i<w.heap.size→ (w.heap.push ob)[i]?=w.heap[i]?:=fun hi=>by rw [Array.getElem?_push,if_neg (by omega)]
 refine⟨⟨?_,?_,?_,?_,?_,fun b o' e=>by
  rw [cC]at e;rw [nC];split at e
  ·omega
  ·have:=r.keys b o' e;omega⟩,⟨hle,by simp,fun i hi _=>hold hi,?_,by simp [nC],rfl,rfl,rfl,fun x hx=>Emb.put_ne _ _ (by omega),(fun a _=>uS w hz a),fun _ _ e _=>.inl e,fun b o' e hb=>by
  rw [cC,if_neg (by omega)]at e;exact⟨o',e⟩⟩⟩
 · intro b o' e;rw [cC]at e;split at e
   · rename_i hb;cases e;subst hb;exact .inr ⟨_,Emb.put_same _ _ _,ho _ _ hle (Emb.put_same _ _ _) (by rw [Array.getElem?_push];simp)⟩
   · rename_i hb;rcases r.obj0 b o' e with⟨u1,u2⟩ | ⟨L,g1,g2⟩
     ·exact .inl ⟨u1,by rw [Emb.put_ne _ _ hb];exact u2⟩
     exact .inr ⟨L,by rw [Emb.put_ne _ _ hb];exact g1,(g2.mono hle).heap fun i hi=>hold (g2.lt i hi)⟩
 · intro b b' o1 o2 L L' e e' k k' hbl hne;rw [cC]at e e';by_cases h1:b=h.nb
   · subst h1;rw [Emb.put_same]at k;cases k;rw [if_pos rfl]at e;cases e;have hb':b'≠h.nb:=fun e=>hne e.symm;rw [if_neg hb']at e';rw [Emb.put_ne _ _ hb']at k';obtain⟨i,i1,i2⟩ :=hbl;have:=r.lt e' k' i i2;rw [bY hone]at i1;rw [←i1]at this;exact absurd this (lt_irrefl _)
   · rw [if_neg h1]at e;rw [Emb.put_ne _ _ h1]at k;by_cases h2:b'=h.nb
     · subst h2;rw [Emb.put_same]at k';cases k';rw [if_pos rfl]at e';cases e';obtain⟨i,i1,i2⟩ :=hbl;have:=r.lt e k i i1;rw [bY hone]at i2;rw [←i2]at this;exact absurd this (lt_irrefl _)
     · rw [if_neg h2]at e';rw [Emb.put_ne _ _ h2]at k';exact r.kin b b' o1 o2 L L' e e' k k' hbl hne
 · intro b e;rw [nC]at e;rw [Emb.put_ne _ _ (by omega)];exact r.fresh b (by omega)
 · intro k C e;obtain⟨e1,f1,g⟩ :=r.imm k C e;exact⟨e1,f1,by rw [hold (Array.getElem?_eq_some_iff.1 g).1];exact g⟩
 · intro b o' L e k i hi0;show E.imm i=none;rw [cC]at e;by_cases hb:b=h.nb
   · subst hb;rw [Emb.put_same]at k;cases k;rw [if_pos rfl]at e;cases e;rw [bY hone]at hi0;subst hi0;show E.imm w.heap.size=none;cases hi:E.imm w.heap.size with
     |none=>rfl
     |some C=>exact absurd (r.immLt hi) (lt_irrefl _)
   · rw [if_neg hb]at e;rw [Emb.put_ne _ _ hb]at k;exact r.apart b o' L e k i hi0
 · intro b' o' L' e k i hi hlt;rw [cC]at e;by_cases hb:b'=h.nb
   · subst hb;rw [Emb.put_same]at k;cases k;rw [if_pos rfl]at e;cases e;rw [bY hone]at hi;subst hi;exact absurd hlt (lt_irrefl _)
   · rw [if_neg hb]at e;rw [Emb.put_ne _ _ hb]at k;exact⟨b',o',L',e,k,hi⟩
theorem Rel.setObj {E:Emb}{h:Hp}{w:World}(r:Rel E h w.heap){b:Nat}{L:Loc}{o o':AObj}(ob:Obj)
  (hb:h.look b=some o) (hE:E b=some L) (hn:bQ o= []) (hs:hU o=false)
  (ho:∀H':Array Obj,H'[L.blk]?=some ob→OR E H' L o')  (hz:noFrz ob=true:=by rfl) (hone:one1 o=true:=by rfl) (hone':one1 o'=true:=by rfl) :
  Rel E (h.set b o') (w.heap.setIfInBounds L.blk ob) ∧Ext E h w E (h.set b o') {w with heap:=w.heap.setIfInBounds L.blk ob}:=by
 have hlt:L.blk<w.heap.size:=r.lt hb hE _ ((bY hone).2 rfl)
 have apart:∀ {x ox Lx},h.look x=some ox→E x=some Lx→x≠b→¬Own ox Lx L.blk:=fun hx hEx hne hbl=>by
  rcases r.kin _ _ _ _ _ _ hx hb hEx hE ⟨_,hbl,(bY hone).2 rfl⟩ hne with⟨_,h2,_⟩ | ⟨h1,_⟩
  ·rw [hs]at h2;cases h2
  ·rw [hn]at h1;cases h1
 have hks:∀x ox,(h.set b o').look x=some ox→∃o0,h.look x=some o0:=fun x ox e=>by
  rw [aX]at e;split at e
  ·rename_i hx;subst hx;exact⟨o,hb⟩
  ·exact⟨ox,e⟩
 refine⟨⟨?_,?_,fun x e=>r.fresh x e,?_,?_,fun x ox e=>by obtain⟨o0,e0⟩ :=hks x ox e;exact r.keys x o0 e0⟩,⟨Emb.le.refl E,by simp,?_,?_,le_refl _,rfl,rfl,rfl,fun _ _=>rfl,fun a _=>by obtain⟨ob0,k1,k2⟩ := (r.objL hb hE).noFrz hone;exact rZ k1 k2 hz a,fun _ _ e _=>.inl e,fun x ox e _=>hks x ox e⟩⟩
 · intro x ox e;rw [aX]at e;split at e
   · rename_i hx;cases e;subst hx;exact .inr ⟨L,hE,ho _ (by simp [hlt])⟩
   · rename_i hx;rcases r.obj0 x ox e with u| ⟨Lx,g1,g2⟩
     ·exact .inl u
     exact .inr ⟨Lx,g1,g2.heap fun i hi=>by rw [Array.getElem?_setIfInBounds_ne (fun hh:L.blk=i=>apart e g1 hx (by rw [hh];exact hi))]⟩
 · intro x y ox oy Lx Ly ex ey kx ky hbl hne;rw [aX]at ex ey;by_cases h1:x=b
   · subst h1;have h2:y≠x:=fun e=>hne e.symm;rw [if_neg h2]at ey;rw [if_pos rfl]at ex;cases ex;rw [hE]at kx;cases kx;obtain⟨i,i1,i2⟩ :=hbl;rw [bY hone']at i1;subst i1;exact absurd i2 (apart ey ky h2)
   · rw [if_neg h1]at ex;by_cases h2:y=b
     · subst h2;rw [if_pos rfl]at ey;cases ey;rw [hE]at ky;cases ky;obtain⟨i,i1,i2⟩ :=hbl;rw [bY hone']at i2;subst i2;exact absurd i1 (apart ex kx h1)
     · rw [if_neg h2]at ey;exact r.kin x y ox oy Lx Ly ex ey kx ky hbl hne
 · intro k C e;obtain⟨e1,f1,g⟩ :=r.imm k C e;have hk:L.blk≠k:=fun hh=>by rw [hh.symm,r.apart b o L hb hE _ ((bY hone).2 rfl)]at e;cases e
   exact⟨e1,f1,by rw [Array.getElem?_setIfInBounds_ne hk];exact g⟩
 · intro x ox Lx ex kx i hi;rw [aX]at ex;by_cases h1:x=b
   · subst h1;rw [if_pos rfl]at ex;cases ex;exact r.apart x o Lx hb kx i ((bY hone).2 ((bY hone').1 hi))
   ·rw [if_neg h1]at ex;exact r.apart x ox Lx ex kx i hi
 · intro i hi hno;rw [Array.getElem?_setIfInBounds_ne (fun hh=>hno b o L hb hE ((bY hone).2 hh))]
 · intro x ox Lx ex kx i hi _;rw [aX]at ex;by_cases h1:x=b
   · subst h1;rw [if_pos rfl]at ex;cases ex;rw [hE]at kx;cases kx;exact⟨x,o,L,hb,hE,(bY hone).2 ((bY hone').1 hi)⟩
   ·rw [if_neg h1]at ex;exact⟨x,ox,Lx,ex,kx,hi⟩
theorem Rel.imm_put {E:Emb}{h:Hp}{H:Array Obj}(r:Rel E h H){b:Nat}{o:AObj}{L:Loc}(hb:h.look b=some o)(hE:E b=some L)(ob:Obj)(hone:one1 o=true:=by rfl) :
  ∀k C,E.imm k=some C→∃e f,(H.setIfInBounds L.blk ob)[k]?=some (.cells C e f) :=fun k C e=>by
 obtain⟨e1,f1,g⟩ :=r.imm k C e;have hk:L.blk≠k:=fun hh=>by rw [hh.symm,r.apart b o L hb hE _ ((bY hone).2 rfl)]at e;cases e
 exact⟨e1,f1,by rw [Array.getElem?_setIfInBounds_ne hk];exact g⟩
end
section
variable {P :Program}
def over (C:Array Value)(k:Nat) :List Value→Array Value
 | [] =>C
 |v::vs=>over (C.setIfInBounds k v) (k+1) vs
theorem lQ :∀ (vs:List Value) (C:Array Value) (k:Nat),(over C k vs).size=C.size
 | [],_,_=>rfl
 |v::vs,C,k=>by rw [over,lQ vs];simp
theorem kW :∀ (vs:List Value) (C:Array Value) (k j:Nat),k+vs.length≤C.size→ (over C k vs)[j]?=if k≤j∧j<k+vs.length then vs[j-k]? else C[j]?
 | [],C,k,j,_=>by simp [over,show ¬ (k≤j∧j<k)by omega]
 | v ::vs,C,k,j,h=>by
  simp only [List.length_cons]at h ⊢;rw [over,kW vs _ _ _ (by simp;omega)];by_cases h1:k+1≤j∧j<k+1+vs.length
  · have h2:k≤j∧j<k+ (vs.length+1) :=by omega
    rw [if_pos h1,if_pos h2,show j-k= (j- (k+1)) +1 by omega];simp
  · rw [if_neg h1];by_cases h3:j=k
    · subst h3;have h2:j≤j∧j<j+ (vs.length+1) :=by omega
      have h4:j<C.size:=by omega
      rw [if_pos h2];simp [h4]
    · have h2:¬ (k≤j∧j<k+ (vs.length+1)) :=by omega
      rw [if_neg h2,Array.getElem?_setIfInBounds_ne (by omega)]
def bZ (w:World)(b:Nat)(o:Obj) :World:={w with heap:=w.heap.setIfInBounds b o}
theorem pP {w:World}{b:Nat}{o:Obj}(h:w.heap[b]?=some o) :bZ w b o=w:=by
 unfold bZ;have:w.heap.setIfInBounds b o=w.heap:=by
  apply Array.ext_getElem?;intro i;by_cases e:b=i
  · subst e;have:= (Array.getElem?_eq_some_iff.1 h).1;simp [this];have h2:= (Array.getElem?_eq_some_iff.1 h).2;exact h2.symm
  ·rw [Array.getElem?_setIfInBounds_ne e]
 rw [this]
theorem cell_of {w:World}{b:Nat}{C:Array Value}{e:TypeId}{f:Nat×Nat}(h:w.heap[b]?=some (.cells C e f))(k:Nat) :w.cell? ⟨b,k,none⟩ =C[k]?:=by
 simp [World.cell?,h]
theorem aQK {w:World}{b:Nat}{C:Array Value}{e:TypeId}(h:w.heap[b]?=some (.cells C e (0,0)))(k:Nat) :w.frozen? ⟨b,k,none⟩ =false:=by
 simp [World.frozen?,h]
theorem aMH {w:World}{b:Nat}{C:Array Value}{e:TypeId}{f:Nat×Nat}(h:w.heap[b]?=some (.cells C e f))(k:Nat)(v:Value) :
  w.setCell ⟨b,k,none⟩ v=bZ w b (.cells (C.setIfInBounds k v) e f) :=by
 unfold World.setCell bZ;refine congrArg (fun H=> ({w with heap:=H}:World)) ?_;apply Array.ext_getElem?;intro i;rw [Array.getElem?_modify];by_cases hi:b=i
 · subst hi;have h1:= (Array.getElem?_eq_some_iff.1 h).1;have h2:= (Array.getElem?_eq_some_iff.1 h).2;simp [h1,h2]
 ·rw [if_neg hi,Array.getElem?_setIfInBounds_ne hi]
theorem oN {w:World}{b:Nat}{o o':Obj}(h:w.heap[b]?=some o) : (bZ w b o').heap[b]?=some o':=by
 have:= (Array.getElem?_eq_some_iff.1 h).1;simp [bZ,this]
theorem aFO (w:World)(b:Nat)(o o':Obj) :bZ (bZ w b o) b o'=bZ w b o':=by
 simp only [bZ];congr 1;apply Array.ext_getElem?;intro i;by_cases e:b=i
 · subst e;by_cases h:b<w.heap.size<;>simp [h]
 ·rw [Array.getElem?_setIfInBounds_ne e,Array.getElem?_setIfInBounds_ne e,Array.getElem?_setIfInBounds_ne e]
theorem eV (b k n:Nat) : (⟨b,k,none⟩ :Addr).add n= ⟨b,k+n,none⟩ :=by
 unfold Addr.add;split
 ·rename_i h;subst h;rfl
 ·rfl
theorem kX (vs:List Value) :∀ {w:World} {b k i:Nat} {C:Array Value} {e:TypeId},w.heap[b]?=some (.cells C e (0,0)) →k+i+vs.length≤C.size →
  (∀v∈vs,v.oneCell'=true) → (storeCells ⟨b,k,none⟩ vs i).run P w= .ok () (bZ w b (.cells (over C (k+i) vs) e (0,0))) :=by
 induction vs with
 |nil=>intro w b k i C e h _ _;simp [storeCells,over,pP h]
 | cons v vs ih=>
  intro w b k i C e h hl hv;simp only [List.length_cons]at hl;have hc:w.cell? ⟨b,k+i,none⟩ =some (C[k+i]'(by omega)) :=by rw [cell_of h];simp
  have hh:=oN (o':=.cells (C.setIfInBounds (k+i) v) e (0,0)) h;have:=ih (w:=bZ w b (.cells (C.setIfInBounds (k+i) v) e (0,0))) (b:=b) (k:=k) (i:=i+1) hh (by simp;omega) (fun x hx=>hv x (List.mem_cons_of_mem _ hx));rw [aFO]at this;simp only [storeCells,Sem.run_bind,eV,run_store P w _ v .plain (hv v (List.mem_cons_self ..)),hc,aQK h,aMH h];simpa [over,Nat.add_assoc]using this
theorem run_loadCellsFrom (n:Nat) :∀ {w:World} {b k i:Nat} {C:Array Value} {e:TypeId} {f:Nat×Nat} (acc us:List Value),w.heap[b]?=some (.cells C e f) →us.length=n →
  (∀j,j<n→C[k+i+j]?=us[j]?) → (loadCellsFrom ⟨b,k,none⟩ i n ⟨acc⟩).run P w= .ok ⟨acc++us⟩ w:=by
 induction n with
 |zero=>intro w b k i C e f acc us _ hl _;have:us= [] :=List.length_eq_zero_iff.1 hl;subst this;simp [loadCellsFrom]
 | succ n ih=>
  intro w b k i C e f acc us h hl hj;cases us with
  |nil=>simp at hl
  | cons u us=>
   have h0:=hj 0 (by omega);simp at h0
   have:=ih (w:=w) (b:=b) (k:=k) (i:=i+1) (C:=C) (e:=e) (f:=f) (acc++ [u]) us h (by simpa using hl) (fun j hjn=>by
    have:=hj (j+1) (by omega);rw [show k+ (i+1) +j=k+i+ (j+1)by omega,this];simp)
   simp only [loadCellsFrom,Sem.run_bind,eV,run_load,cell_of h,h0];simpa using this
theorem run_loadCells {n:Nat}{w:World}{b k:Nat}{C:Array Value}{e:TypeId}{f:Nat×Nat}(us:List Value)(h:w.heap[b]?=some (.cells C e f))(hl:us.length=n)
  (hj:∀j,j<n→C[k+j]?=us[j]?) : (loadCells ⟨b,k,none⟩ n).run P w= .ok ⟨us⟩ w:=by
 have:=run_loadCellsFrom (P:=P) n (w:=w) (b:=b) (k:=k) (i:=0) [] us h hl (by simpa using hj);simpa [loadCells]using this
theorem aMI {E:Emb}{h:Hp}{w:World}(r:Rel E h w.heap){b off:Nat}{a:AV}(hl:h.load1 b off=some a){L:Loc}(hE:E b=some L) :
  ∃v,w.cell? ⟨L.blk,L.sh+off,none⟩ =some v∧VR E a v:=by
 unfold Hp.load1 at hl;split at hl
 · rename_i t n k s hk;obtain⟨L',g1,C,e,g2,g3,g4⟩ :=r.obj _ _ hk;rw [hE]at g1;cases g1;obtain⟨_,v,k1,k2⟩ :=g4 _ _ hl;exact⟨v,by rw [cell_of g2];exact k1,k2⟩
 ·cases hl
theorem uT {E:Emb}{h:Hp}{w:World}(r:Rel E h w.heap){b off n:Nat}{aS:List AV}(hl:h.loadN b off n=some aS){L:Loc}(hE:E b=some L) :
  ∃us,(∀P (w1:World),w1.heap=w.heap→ (loadCells ⟨L.blk,L.sh+off,none⟩ n).run P w1= .ok ⟨us⟩ w1) ∧VRs E aS us∧us.length=n:=by
 unfold Hp.loadN at hl;split at hl
 · rename_i t m k s hk;obtain⟨L',g1,C,e,g2,g3,g4⟩ :=r.obj _ _ hk;rw [hE]at g1;cases g1;obtain⟨hlen,hget⟩ :=mL hl
   have hc:∀j,j<n→∃v,C[L.sh+off+j]?=some v∧∀a,aS[j]?=some a→VR E a v:=fun j hj=>by
    have e1:=hget j hj;have e2:aS[j]?=some (aS[j]'(by omega)) :=by simp
    rw [e2]at e1;obtain⟨_,v,k1,k2⟩ :=g4 _ _ e1;exact⟨v,by rw [Nat.add_assoc];exact k1,fun a ha=>by rw [e2]at ha;cases ha;exact k2⟩
   have hsz:L.sh+off+n≤C.size∨n=0:=by
    by_cases h0:n=0
    ·exact .inr h0
    · obtain⟨v,k1,_⟩ :=hc (n-1) (by omega);have:= (Array.getElem?_eq_some_iff.1 k1).1;exact .inl (by omega)
   refine⟨(C.extract (L.sh+off) (L.sh+off+n)).toList,fun P w1 hw1=>run_loadCells _ (by rw [hw1];exact g2) (by simp;omega) (fun j hj=>?_),VRs.of_get (by simp;omega) (fun i a ha=>?_),by simp;omega⟩
   · rw [Array.getElem?_toList,Array.getElem?_extract];rw [if_pos (by rcases hsz with h|h<;>omega)]
   · have hi:i<n:=by have:= (List.getElem?_eq_some_iff.1 ha).1;omega
     obtain⟨v,k1,k2⟩ :=hc i hi;refine⟨v,?_,k2 a ha⟩;rw [Array.getElem?_toList,Array.getElem?_extract,if_pos (by rcases hsz with h|h<;>omega)];exact k1
 ·cases hl
theorem aDU {E:Emb}{h:Hp}{w:World}(r:Rel E h w.heap){b off n:Nat}{aS:List AV}(hl:h.loadN b off n=some aS){L:Loc}(hE:E b=some L) :
  ∃us,(∀P,(loadCells ⟨L.blk,L.sh+off,none⟩ n).run P w= .ok ⟨us⟩ w) ∧VRs E aS us∧us.length=n:=by
 obtain⟨us,h1,h2⟩ :=uT r hl hE;exact⟨us,fun P=>h1 P w rfl,h2⟩
theorem VRs.ones {E:Emb}{aS:List AV}{vs:List Value}(h:VRs E aS vs)(ho:cJ aS=true) :∀v∈vs,v.oneCell'=true:=by
 induction aS generalizing vs with
 |nil=>rw [h.nil_inv];intro v hv;cases hv
 | cons a aS ih=>
  obtain⟨u,us,rfl,h1,h2⟩ :=h.cons_inv;simp only [cJ,Bool.and_eq_true]at ho;intro v hv;cases hv with
  |head=>exact h1.one ho.1
  |tail _ hv=>exact ih h2 ho.2 v hv
theorem Rel.write {E:Emb}{h:Hp}{w:World}(r:Rel E h w.heap){b off:Nat}{t:T AV}{n:Nat}{older:List Nat}(hb:h.look b=some (.cells t n older false)){L:Loc}(hE:E b=some L)
  {aS:List AV} {vs:List Value} (hv:VRs E aS vs) (ho:cJ aS=true) (n':Nat) (hn:n≤n') (hn2:aS≠ [] →off+aS.length≤n') (hfit:L.sh+off+aS.length≤L.sz) :
  ∃ w',(∀P,(storeCells ⟨L.blk,L.sh+off,none⟩ vs).run P w= .ok () w') ∧Rel E ((h.delAll older).set b (.cells (putCells t off aS) n' [] false)) w'.heap ∧
   Ext E h w E ((h.delAll older).set b (.cells (putCells t off aS) n' [] false)) w':=by
 obtain⟨L',g1,C,e,g2,g3,g4⟩ :=r.obj _ _ hb;rw [hE]at g1;cases g1;have hvl:=hv.length;have hlt:= (Array.getElem?_eq_some_iff.1 g2).1
 have apart:∀ {x ox Lx},h.look x=some ox→E x=some Lx→x≠b→x∉older→¬Own ox Lx L.blk:=fun hx hEx hne hno hbl=>by
  rcases r.kin _ _ _ _ _ _ hx hb hEx hE ⟨_,hbl,rfl⟩ hne with⟨_,h2,_⟩ | ⟨h1,_⟩
  ·cases h2
  ·exact hno h1
 have hks:∀x ox,((h.delAll older).set b (.cells (putCells t off aS) n' [] false)).look x=some ox→∃o0,h.look x=some o0:=fun x ox e=>by
  rw [aX]at e;split at e
  ·rename_i hx;subst hx;exact⟨_,hb⟩
  · rw [cD]at e;split at e
    ·cases e
    ·exact⟨ox,e⟩
 refine⟨bZ w L.blk (.cells (over C (L.sh+off) vs) e (0,0)),fun P=>?_,⟨?_,?_,fun x hx=>r.fresh x (by simpa [hX,lP]using hx),r.imm_put hb hE _,?_,fun x ox e=>by obtain⟨o0,e0⟩ :=hks x ox e;have:=r.keys x o0 e0;simpa [hX,lP]using this⟩,⟨Emb.le.refl E,by simp [bZ],?_,?_,by simp [hX,lP],rfl,rfl,rfl,fun _ _=>rfl,(fun a _=>rZ g2 rfl rfl a),fun _ _ e _=>.inl e,fun x ox e _=>hks x ox e⟩⟩
 · have:=kX (P:=P) vs (w:=w) (b:=L.blk) (k:=L.sh+off) (i:=0) g2 (by omega) (hv.ones ho);simpa using this
 · intro x ox ex;rw [aX]at ex;split at ex
   · rename_i hx;cases ex;subst hx;refine .inr ⟨L,hE,over C (L.sh+off) vs,e,oN g2,by rw [lQ];exact g3,fun i a ha=>?_⟩;rw [uR]at ha;by_cases hi:off≤i∧i<off+aS.length
     · rw [if_pos hi]at ha;obtain⟨v,k1,k2⟩ :=hv.get _ _ ha;refine⟨by have:=hn2 (by intro e;subst e;simp at hi;omega);omega,v,?_,k2⟩;rw [kW _ _ _ _ (by omega),if_pos (by omega),show L.sh+i- (L.sh+off) =i-off by omega];exact k1
     · rw [if_neg hi]at ha;obtain⟨k0,v,k1,k2⟩ :=g4 _ _ ha;refine⟨by omega,v,?_,k2⟩;rw [kW _ _ _ _ (by omega),if_neg (by omega)];exact k1
   · rename_i hx;rw [cD]at ex;split at ex
     ·cases ex
     · rename_i hno;rcases r.obj0 x ox ex with u| ⟨Lx,k1,k2⟩
       ·exact .inl u
       exact .inr ⟨Lx,k1,k2.heap fun i hi=>by simp only [bZ];rw [Array.getElem?_setIfInBounds_ne (fun hh:L.blk=i=>apart ex k1 hx hno (by rw [hh];exact hi))]⟩
 · intro x y ox oy Lx Ly ex ey kx ky hbl hne;rw [aX]at ex ey;by_cases h1:x=b
   · subst h1;have h2:y≠x:=fun e=>hne e.symm;rw [if_neg h2,cD]at ey;rw [if_pos rfl]at ex;cases ex;split at ey
     ·cases ey
     · rename_i hno;rw [hE]at kx;cases kx;obtain⟨i,i1,i2⟩ :=hbl;obtain rfl:L.blk=i:=i1;exact absurd i2 (apart ey ky h2 hno)
   · rw [if_neg h1,cD]at ex;split at ex
     ·cases ex
     · rename_i hnox;by_cases h2:y=b
       · subst h2;rw [if_pos rfl]at ey;cases ey;rw [hE]at ky;cases ky;obtain⟨i,i1,i2⟩ :=hbl;obtain rfl:L.blk=i:=i2;exact absurd i1 (apart ex kx h1 hnox)
       · rw [if_neg h2,cD]at ey;split at ey
         ·cases ey
         ·exact r.kin x y ox oy Lx Ly ex ey kx ky hbl hne
 · intro x ox Lx ex kx i hi;rw [aX]at ex;by_cases h1:x=b
   · subst h1;rw [if_pos rfl]at ex;cases ex;exact r.apart x _ Lx hb kx i hi
   · rw [if_neg h1,cD]at ex;split at ex
     ·cases ex
     ·exact r.apart x ox Lx ex kx i hi
 · intro i hi hno;simp only [bZ];rw [Array.getElem?_setIfInBounds_ne (hno b _ L hb hE)]
 · intro x ox Lx ex kx i hi _;rw [aX]at ex;by_cases h1:x=b
   · subst h1;rw [if_pos rfl]at ex;cases ex;rw [hE]at kx;cases kx;exact⟨x,_,L,hb,hE,hi⟩
   · rw [if_neg h1,cD]at ex;split at ex
     ·cases ex
     ·exact⟨x,ox,Lx,ex,kx,hi⟩
theorem aJQ {E:Emb}{h h':Hp}{w:World}(r:Rel E h w.heap){b off:Nat}{aS:List AV}{vs:List Value}(hs:h.storeN b off aS=some h')(hv:VRs E aS vs){L:Loc}(hE:E b=some L) :
  ∃w',(∀P,(storeCells ⟨L.blk,L.sh+off,none⟩ vs).run P w= .ok () w') ∧Rel E h' w'.heap∧Ext E h w E h' w':=by
 unfold Hp.storeN at hs;split at hs
 · rename_i t n older hk;split at hs
   ·cases hs
   · rename_i old hold;cases ho:cJ aS with
     |false=>rw [ho]at hs;cases hs
     | true =>
      rw [ho]at hs;simp only [cond]at hs;cases hs;obtain⟨L',g1,C,e,g2,g3,g4⟩ :=r.obj _ _ hk;rw [hE]at g1;cases g1;obtain⟨hlen,hget⟩ :=mL hold
      have hend:aS≠ [] →off+aS.length≤n∧L.sh+off+aS.length≤L.sz:=fun hne=>by
       have hpos:0<aS.length:=List.length_pos_iff.2 hne;have e1:=hget (aS.length-1) (by omega);have e2:old[aS.length-1]?=some (old[aS.length-1]'(by omega)) :=by simp
       rw [e2]at e1;obtain⟨k0,v,k1,_⟩ :=g4 _ _ e1;have:= (Array.getElem?_eq_some_iff.1 k1).1;omega
      by_cases hne:aS= []
      · subst hne;rw [hv.nil_inv];have hx:L.sh≤L.sz∨True:=.inr trivial
        have hks:∀x ox,((h.delAll older).set b (.cells (putCells t off []) n [] false)).look x=some ox→∃o0,h.look x=some o0:=fun x ox e=>by
         rw [aX]at e;split at e
         ·rename_i hx;subst hx;exact⟨_,hk⟩
         · rw [cD]at e;split at e
           ·cases e
           ·exact⟨ox,e⟩
        refine⟨w,fun P=>rfl,⟨?_,?_,fun x hx=>r.fresh x (by simpa [hX,lP]using hx),r.imm,?_,fun x ox e=>by obtain⟨o0,e0⟩ :=hks x ox e;have:=r.keys x o0 e0;simpa [hX,lP]using this⟩,⟨Emb.le.refl E,le_refl _,fun _ _ _=>rfl,?_,by simp [hX,lP],rfl,rfl,rfl,fun _ _=>rfl,fun _ _=>rfl,fun _ _ e _=>.inl e,fun x ox e _=>hks x ox e⟩⟩
        · intro x ox ex;rw [aX]at ex;split at ex
          ·rename_i hx;cases ex;subst hx;exact .inr ⟨L,hE,C,e,g2,g3,g4⟩
          · rw [cD]at ex;split at ex
            ·cases ex
            ·exact r.obj0 x ox ex
        · intro x y ox oy Lx Ly ex ey kx ky hbl hne;rw [aX]at ex ey;by_cases h1:x=b
          · subst h1;have h2:y≠x:=fun e=>hne e.symm;rw [if_neg h2,cD]at ey;rw [if_pos rfl]at ex;cases ex;split at ey
            ·cases ey
            · rename_i hno;rcases r.kin _ _ _ _ _ _ hk ey kx ky hbl hne with⟨k1,_⟩ | ⟨_,k2,_⟩
              ·exact absurd k1 hno
              ·cases k2
          · rw [if_neg h1,cD]at ex;split at ex
            ·cases ex
            · rename_i hnox;by_cases h2:y=b
              · subst h2;rw [if_pos rfl]at ey;cases ey;rcases r.kin _ _ _ _ _ _ ex hk kx ky hbl hne with⟨_,k2,_⟩ | ⟨k1,_⟩
                ·cases k2
                ·exact absurd k1 hnox
              · rw [if_neg h2,cD]at ey;split at ey
                ·cases ey
                ·exact r.kin x y ox oy Lx Ly ex ey kx ky hbl hne
        · intro x ox Lx ex kx i hi;rw [aX]at ex;by_cases h1:x=b
          · subst h1;rw [if_pos rfl]at ex;cases ex;exact r.apart x _ Lx hk kx i hi
          · rw [if_neg h1,cD]at ex;split at ex
            ·cases ex
            ·exact r.apart x ox Lx ex kx i hi
        · intro x ox Lx ex kx i hi _;rw [aX]at ex;by_cases h1:x=b
          · subst h1;rw [if_pos rfl]at ex;cases ex;exact⟨x,_,Lx,hk,kx,hi⟩
          · rw [if_neg h1,cD]at ex;split at ex
            ·cases ex
            ·exact⟨x,ox,Lx,ex,kx,hi⟩
      · have:=hend hne;exact r.write hk hE hv ho n (le_refl _) (fun _=>this.1) this.2
 ·cases hs
def DR (E:Emb) :ADef→Deferred→Prop
 | .fn f args,d=>∃cap a,d= {target:=.fn (.func f) ⟨cap⟩,args:= ⟨a⟩}∧VRs E args (a++cap)
 | .col r,d=>∃L,E r=some L∧d= {target:=.collected L.blk,args:= #[]}
theorem DR.mono {E E':Emb}(h:E.le E'){a:ADef}{d:Deferred}(r:DR E a d) :DR E' a d:=by
 cases a with
 |fn f args=>obtain⟨cap,a,h1,h2⟩ :=r;exact⟨cap,a,h1,h2.mono h⟩
 |col r'=>obtain⟨L,h1,h2⟩ :=r;exact⟨L,h.1 _ _ h1,h2⟩
def Out (P:Program)(E:Emb)(h:Hp)(w:World)(r:Result Next) :AOut→Prop
 | .val v h'=>∃E' w' cv,(r= .ok (.value cv) w'∨ (r= .ok .skip w'∧cv=Go.undef)) ∧VR E' v cv∧Rel E' h' w'.heap∧Ext E h w E' h' w'
 | .call (.enter f args) =>∃cargs,r= .ok (.enter f ⟨cargs⟩) w∧VRs E args cargs
 | .call (.round l args) =>∃cargs L,E l=some L∧VRs E args cargs∧r= (Instr.yield L.blk ⟨cargs⟩).run P w
 | .defer d=>∃cd,r= .ok (.defer cd) w∧DR E d cd
 | .panic v=>∃cv,r= .halt (.panic cv) w∧VR E v cv
 | .recover=>r= .ok .recover w
section
variable {E :Emb} {h h':Hp} {w w':World} {v:AV} {cv:Value}
theorem aTm (r:Rel E h w.heap){s:Sem Value}(hs:s.run P w= .ok cv w)(hv:VR E v cv) :
  Out P E h w ((do pure (Next.value (←s)) :Sem Next).run P w) (.val v h) :=
 ⟨E,w,cv,.inl (by simp [hs]),hv,r,Ext.refl E h w⟩
theorem jP {E':Emb}{s:Sem Value}(hs:s.run P w= .ok cv w')(hv:VR E' v cv)(r:Rel E' h' w'.heap)(x:Ext E h w E' h' w') :
  Out P E h w ((do pure (Next.value (←s)) :Sem Next).run P w) (.val v h') :=
 ⟨E',w',cv,.inl (by simp [hs]),hv,r,x⟩
theorem qZ (E:Emb) :VR E .undef Go.undef:=by simp only [AV.undef,VR];exact⟨[],rfl,VRs.nil E⟩
theorem uU {E':Emb}{s:Sem Unit}(hs:s.run P w= .ok () w')(r:Rel E' h' w'.heap)(x:Ext E h w E' h' w') :
  Out P E h w ((do s;pure Next.skip:Sem Next).run P w) (.val .undef h') :=
 ⟨E',w',Go.undef,.inr ⟨by simp [hs],rfl⟩,qZ E',r,x⟩
theorem aB {t:TypeId}{d:TypeDesc}(hu:P.underlying t=some d) : (underlying t).run P w= .ok d w:=by
 simp [underlying,hu]
theorem cS {t:TypeId}{i:TypeInfo}(hi:P.info? t=some i) : (typeInfo t).run P w= .ok i w:=by
 simp [typeInfo,hi]
theorem bS {t:TypeId}{n:Nat}(hn:aW P t=some n) : (sizeOf t).run P w= .ok n w:=by
 unfold aW at hn;cases hi:P.info? t with
 |none=>rw [hi]at hn;cases hn
 |some i=>rw [hi]at hn;cases hn;simp [sizeOf,cS hi]
theorem gI {t:TypeId}{a:AV}(hz:zeroOf P t=some a) :∃z,(∀w,(zeroValue t).run P w= .ok z w) ∧∀E,VR E a z:=by
 unfold zeroOf at hz;cases hi:P.info? t with
 |none=>rw [hi]at hz;cases hz
 | some i=>
  rw [hi]at hz;simp only at hz;cases hz':i.zero with
  |none=>rw [hz']at hz;cases hz
  |some z=>rw [hz']at hz;exact⟨z,fun w=>by simp [zeroValue,cS hi,hz'],fun E=>aDT hz E⟩
theorem pQ {t:TypeId}{d:TypeDesc}(hu:P.underlying t=some d) : (isAgg t).run P w= .ok (isAggD d) w:=by
 cases d<;>simp [isAgg,aB hu,isAggD]
variable {tm :T AV} {ρ:Operand→Value}
def Reads (E:Emb)(tm:T AV)(ρ:Operand→Value)(S:Operand→Prop) :Prop:=∀x,S x→∀a,bI tm x=some a→VR E a (ρ x)
theorem Reads.sub {S S':Operand→Prop}(hρ:Reads E tm ρ S)(h:∀x,S' x→S x) :Reads E tm ρ S':=fun x hx a ha=>hρ x (h x hx) a ha
theorem Reads.list {S:Operand→Prop}(hρ:Reads E tm ρ S) :∀ {xs:List Operand} {aS:List AV},(∀x∈xs,S x) →fS tm xs=some aS→VRs E aS (xs.map ρ)
 | [],_,_,e=>by simp [fS]at e;subst e;exact VRs.nil E
 | x::xs,_,hx,e=>by
  simp only [fS]at e;split at e
  ·rename_i v vs h1 h2;cases e;exact VRs.cons (hρ _ (hx _ (List.mem_cons_self ..)) _ h1) (hρ.list (fun y hy=>hx y (List.mem_cons_of_mem _ hy)) h2)
  ·cases e
theorem Reads.parts {S:Operand→Prop}(hρ:Reads E tm ρ S) :∀ {xs:List (Nat×Operand)} {aS:List (Nat×AV)},(∀p∈xs,S p.2) →zM tm xs=some aS →
  aS.map (·.1) =xs.map (·.1) ∧VRs E (aS.map (·.2)) (xs.map fun p=>ρ p.2)
 | [],_,_,e=>by simp [zM]at e;subst e;exact⟨rfl,VRs.nil E⟩
 | (i,x) ::xs,_,hx,e=>by
  simp only [zM]at e;split at e
  · rename_i v vs h1 h2;cases e;obtain⟨g1,g2⟩ :=hρ.parts (fun y hy=>hx y (List.mem_cons_of_mem _ hy)) h2;exact⟨by simp [g1],VRs.cons (hρ _ (hx (i,x) (List.mem_cons_self ..)) _ h1) g2⟩
  ·cases e
def aQL (P:Program)(E:Emb)(h:Hp)(w:World)(r:Result Next) :AOut→Prop
 | .val v h'=>h'=h∧∃cv,r= .ok (.value cv) w∧VR E v cv
 |_=>False
theorem aU {Q:Prop}(r:Rel E h w.heap){s:Sem Value}(hs:s.run P w= .ok cv w)(hv:VR E v cv) :
  Out P E h w ((do pure (Next.value (←s)) :Sem Next).run P w) (.val v h) ∧ (Q→aQL P E h w ((do pure (Next.value (←s)) :Sem Next).run P w) (.val v h)) :=
 ⟨aTm r hs hv,fun _=> ⟨rfl,cv,by simp [hs],hv⟩⟩
theorem nq {A B Q:Prop}(hq:¬Q)(hA:A) :A∧ (Q→B) := ⟨hA,fun h=>absurd h hq⟩
theorem aCv (r:Rel E h w.heap){t:TypeId}{b off:Nat}{a:AV}(hl:aPE P h t b off=some a){L:Loc}(hE:E b=some L) :
  ∃cv,(loadVar t ⟨L.blk,L.sh+off,none⟩).run P w= .ok cv w∧VR E a cv:=by
 unfold aPE at hl;split at hl
 ·cases hl
 · rename_i d hd;cases hg:isAggD d with
   | true=>
    rw [hg]at hl;simp only [cond]at hl;split at hl
    ·cases hl
    · rename_i n hn;split at hl
      · rename_i vs hvs;cases hl;obtain⟨us,h1,h2,_⟩ :=aDU r hvs hE;exact⟨.agg ⟨us⟩,by simp [loadVar,pQ hd,hg,bS hn,h1 P],by simp only [VR];exact⟨us,rfl,h2⟩⟩
      ·cases hl
   | false=>
    rw [hg]at hl;simp only [cond]at hl;obtain⟨v,h1,h2⟩ :=aMI r hl hE;exact⟨v,by simp [loadVar,pQ hd,hg,h1],h2⟩
theorem aHk (r:Rel E h w.heap){t:TypeId}{b off:Nat}{a:AV}(hs:aMB P h t b off a=some h'){L:Loc}(hE:E b=some L)(hv:VR E a cv) :
  ∃w',(storeVar t ⟨L.blk,L.sh+off,none⟩ cv).run P w= .ok () w'∧Rel E h' w'.heap∧Ext E h w E h' w':=by
 unfold aMB at hs;split at hs
 ·cases hs
 · rename_i n hn;cases hc:beq a.cells.length n with
   |false=>rw [hc]at hs;cases hs
   | true=>
    rw [hc]at hs;simp only [cond]at hs;have hlen:=Nat.eq_of_beq_eq_true hc;obtain⟨w',h1,h2,h3⟩ :=aJQ r hs hv.cells hE;have hcl:cv.cells.size=n:=by rw [←hlen,←hv.cells.length];simp
    exact⟨w',by simp [storeVar,bS hn,hcl,h1 P],h2,h3⟩
theorem uV {E':Emb}{H':Array Obj}{b:Nat}{aS:List AV}{vs:List Value}{C:Array Value}{e:TypeId}(hC:∃rest,C.toList=vs++rest)(hv:VRs E' aS vs)(hH:H'[b]?=some (.cells C e (0,0)))(t:T AV)(ht:∀i,t.at i=if i<aS.length then aS[i]? else none)(n:Nat)(hn:aS.length≤n)(k:List Nat)(s:Bool) :
  OR E' H' ⟨b,0,C.size⟩ (.cells t n k s) :=by
 refine⟨C,e,hH,rfl,fun i a ha=>?_⟩;rw [ht]at ha;split at ha
 · rename_i hi;obtain⟨v,h1,h2⟩ :=hv.get _ _ ha;obtain⟨rest,hr⟩ :=hC;refine⟨by omega,v,?_,h2⟩;simp only [Nat.zero_add];rw [←Array.getElem?_toList,hr,List.getElem?_append_left (by rw [hv.length];exact hi)];exact h1
 ·cases ha
theorem aY (aS:List AV)(i:Nat) : (putCells .leaf 0 aS).at i=if i<aS.length then aS[i]? else none:=by
 rw [uR,T.at_leaf];by_cases h:i<aS.length
 ·rw [if_pos (by omega),if_pos h];simp
 ·rw [if_neg (by omega),if_neg h]
theorem uW (r:Rel E h w.heap){aS:List AV}{vs:List Value}(hv:VRs E aS vs)(e:TypeId)(rest:List Value) :
  Rel (E.put h.nb ⟨w.heap.size,0,(vs++rest).length⟩) (h.newCells aS) (w.heap.push (.cells ⟨vs++rest⟩ e)) ∧
   Ext E h w (E.put h.nb ⟨w.heap.size,0,(vs++rest).length⟩) (h.newCells aS) {w with heap:=w.heap.push (.cells ⟨vs++rest⟩ e)}:=
 r.new _ (.cells ⟨vs++rest⟩ e) _ (fun _ _ hle _ hH=>uV (C:= ⟨vs++rest⟩) ⟨rest,rfl⟩ (hv.mono hle) hH _ (aY aS) _ (le_refl _) _ _)
theorem jQ (r:Rel E h w.heap){aS:List AV}{vs:List Value}(hv:VRs E aS vs)(e:TypeId) :
  Rel (E.put h.nb ⟨w.heap.size,0,vs.length⟩) (h.newCells aS) (w.heap.push (.cells ⟨vs⟩ e)) ∧
   Ext E h w (E.put h.nb ⟨w.heap.size,0,vs.length⟩) (h.newCells aS) {w with heap:=w.heap.push (.cells ⟨vs⟩ e)}:=by
 have:=uW r hv e [];simpa using this
theorem wT (w:World)(h:Hp)(n:Nat) :VR (E.put h.nb ⟨w.heap.size,0,n⟩) (.ptr h.nb 0) (.pointer (some ⟨w.heap.size,0,none⟩)) :=by
 simp only [VR];exact⟨_,Emb.put_same _ _ _,rfl⟩
theorem pR (w:World)(h:Hp)(n l c e cap:Nat)(x:Bool)(h1:l≤c)(h2:c≤cap)(h3:x=true→cap=c)(h4:cap*e≤n) :
  VR (E.put h.nb ⟨w.heap.size,0,n⟩) (.slice h.nb 0 l c e x) (.slice (some ⟨w.heap.size,0,none⟩) l cap) :=by
 simp only [VR];exact⟨_,0,cap,Emb.put_same _ _ _,rfl,h1,h2,h3,fun _=>rfl,by simpa using h4⟩
theorem aBJ (k:IntKind)(n:Int) : (asInt (.int k n)).run P w= .ok n w:=by simp [asInt,asIntOf]
theorem aHl {op:BinOp}{k:IntKind}{a b:Int}{v:AV}(hv:aMC op k a b=some v)(t:TypeId)(hs:op≠ .shl)(hr:op≠ .shr) :
  ∃cv,(binOp op t (.int k a) (.int k b)).run P w= .ok cv w∧VR E v cv:=by
 unfold aMC at hv
 cases op<;>simp only at hv<;>first
  | (cases hv;refine⟨_,by simp [binOp,Op.intArith,Op.intCmp,Op.intBits];rfl,by simp [VR,yS]⟩)
  | (split at hv
     ·cases hv
     ·rename_i hb;cases hv;refine⟨_,by simp [binOp,Op.intDiv,hb];rfl,by simp [VR,yS]⟩)
  | (exact absurd rfl hs) | (exact absurd rfl hr) | (cases hv)
end
end
end
end Go.Hb
