/-
  OWN WORK: a machine on abstract values (blocks by number, no capacities but known ones), as functions that the kernel can run: one operation, a region in any order that its edges leave, one step, a whole call.
-/
import GoSem.Dispatch
import GoSem.Step
set_option linter.unusedVariables false
set_option linter.unusedSimpArgs false
set_option linter.unusedSectionVars false
namespace Go.Hb
noncomputable section

/-! ## tries: keys from 1 on -/
inductive T (α : Type) where
  | leaf
  | node (l : T α) (v : Option α) (r : T α)
  deriving Inhabited

noncomputable def T.get {α : Type} (t : T α) : Nat → Option α :=
  T.rec (fun _ => none) (fun _ v _ gl gr k => bif Nat.beq k (nat_lit 1) then v else bif Nat.beq (Nat.mod k (nat_lit 2)) (nat_lit 0) then gl (Nat.div k (nat_lit 2)) else gr (Nat.div k (nat_lit 2))) t
noncomputable def T.setF {α : Type} (x : Option α) (f : Nat) : Nat → T α → T α :=
  Nat.rec (fun _ t => t) (fun _ ih k t => T.casesOn t
    (bif Nat.beq k (nat_lit 1) then .node .leaf x .leaf else bif Nat.beq (Nat.mod k (nat_lit 2)) (nat_lit 0) then .node (ih (Nat.div k (nat_lit 2)) .leaf) none .leaf else .node .leaf none (ih (Nat.div k (nat_lit 2)) .leaf))
    (fun l v r => bif Nat.beq k (nat_lit 1) then .node l x r else bif Nat.beq (Nat.mod k (nat_lit 2)) (nat_lit 0) then .node (ih (Nat.div k (nat_lit 2)) l) v r else .node l v (ih (Nat.div k (nat_lit 2)) r))) f

def T.at {α : Type} (t : T α) (k : Nat) : Option α := t.get (Nat.succ k)
def T.put {α : Type} (t : T α) (k : Nat) (x : α) : T α := T.setF (some x) (Nat.succ (Nat.succ k)) (Nat.succ k) t
def T.del {α : Type} (t : T α) (k : Nat) : T α := T.setF none (Nat.succ (Nat.succ k)) (Nat.succ k) t

/-! ## values -/
inductive AV where
  | bool (b : Bool)
  | int (k : IntKind) (n : Int)
  | str (len n : Nat)
  | ptr (b off : Nat)
  | nilp
  | slice (b off len cap esz : Nat) (exact : Bool)
  | nils
  | map (r : Nat)
  | nilm
  | func (f : Nat) (first cap : List AV)
  | yield (l : Nat)
  | meth (name : String) (recv : AV)
  | via (t f : Nat) (pr : Bool) (recv : AV)
  | nilf
  | iface (t : Nat) (v : AV)
  | nili
  | agg (vs : List AV)
  | tup (vs : List AV)
  /-- a slice that nobody writes: its elements (each of so many cells); is its capacity its length -/
  | ilst (e : Nat) (xs : List AV) (ex : Bool)
  /-- a pointer to cells that nobody writes: these cells from there on -/
  | iptr (cs : List AV)
  /-- a slice in a list object: elements of e cells, from element off, len of them -/
  | gl (b e off len : Nat) (ex : Bool)
  /-- a pointer to cell o of element i of a list object -/
  | ep (b e i o : Nat)
  /-- this very value -/
  | val (v : Value)
  deriving Inhabited

def AV.undef : AV := .tup []
def AV.cells : AV → List AV
  | .agg vs => vs
  | .val v => v.cells.toList.map .val
  | v => [v]
def AV.one : AV → Bool
  | .agg _ | .tup _ | .val _ => false
  | _ => true

/-- the number that bytes spell, the first one least -/
def bytesNat : List UInt8 → Nat
  | [] => 0
  | b :: bs => b.toNat + 256 * bytesNat bs
def natBytes : Nat → Nat → List UInt8
  | 0, _ => []
  | l+1, n => UInt8.ofNat (n % 256) :: natBytes l (n / 256)

def ofCell : Value → Option AV
  | .bool b => some (.bool b)
  | .int k n => some (.int k n)
  | .string s => some (.str s.data.size (bytesNat s.data.toList))
  | .pointer none => some .nilp
  | .slice none 0 0 => some .nils
  | .map none => some .nilm
  | .func (.func f) ⟨[]⟩ ⟨[]⟩ => some (.func f [] [])
  | .nilFunc => some .nilf
  | .nilIface => some .nili
  | _ => none
def ofCells : List Value → Option (List AV)
  | [] => some []
  | v :: vs => match ofCell v, ofCells vs with
    | some a, some as => some (a :: as)
    | _, _ => none
def ofVal : Value → Option AV
  | .agg vs => match ofCells vs.toList with
    | some l => some (.agg l)
    | none => none
  | .tuple ⟨[]⟩ => some .undef
  | .iface t v => match ofCell v with
    | some a => some (.iface t a)
    | none => none
  | v => ofCell v

inductive ADef where
  | fn (f : Nat) (args : List AV)
  | col (r : Nat)
  deriving Inhabited

inductive AObj where
  | cells (t : T AV) (n : Nat) (older : List Nat) (sup : Bool)
  | map (es : List (AV × AV × Nat)) (clock : Nat)
  | siter (len n pos : Nat)
  | loop (st : LoopState) (pending : Option Code) (fn : Nat) (tm : T AV) (nt : Nat) (params : List Nat) (assign body : Code) (defers : Nat)
  | defd (taken : Bool)
  | lst (e : Nat) (xs : List AV)
  /-- an iterator over a map: which one, its clock then, the entries that it gave, the clock of its last step -/
  | miter (m since : Nat) (seen : List Nat) (last : Nat)
  deriving Inhabited

structure Hp where
  t : T AObj
  nb : Nat
  deriving Inhabited

def Hp.look (h : Hp) (b : Nat) : Option AObj := h.t.at b
def Hp.set (h : Hp) (b : Nat) (o : AObj) : Hp := { h with t := h.t.put b o }
def Hp.del (h : Hp) (b : Nat) : Hp := { h with t := h.t.del b }
def Hp.delAll (h : Hp) : List Nat → Hp
  | [] => h
  | b :: bs => (h.del b).delAll bs
def Hp.new (h : Hp) (o : AObj) : Hp := ⟨h.t.put h.nb o, Nat.succ h.nb⟩

def putCells : T AV → Nat → List AV → T AV
  | t, _, [] => t
  | t, i, v :: vs => putCells (t.put i v) (Nat.succ i) vs
def getCells (t : T AV) : Nat → Nat → Option (List AV)
  | _, 0 => some []
  | i, n+1 => match t.at i with
    | none => none
    | some v => match getCells t (Nat.succ i) n with
      | none => none
      | some vs => some (v :: vs)
def delCells : T AV → Nat → Nat → T AV
  | t, _, 0 => t
  | t, i, n+1 => delCells (t.del i) (Nat.succ i) n

def Hp.newCells (h : Hp) (vs : List AV) : Hp := h.new (.cells (putCells .leaf 0 vs) vs.length [] false)

def Hp.load1 (h : Hp) (b off : Nat) : Option AV :=
  match h.look b with
  | some (.cells t _ _ _) => t.at off
  | _ => none
def Hp.loadN (h : Hp) (b off n : Nat) : Option (List AV) :=
  match h.look b with
  | some (.cells t _ _ _) => getCells t off n
  | _ => none
def allOne : List AV → Bool
  | [] => true
  | v :: vs => v.one && allOne vs
/-- a store of cells that are there: the newest of its kin only; the older ones are forgotten -/
def Hp.storeN (h : Hp) (b off : Nat) (vs : List AV) : Option Hp :=
  match h.look b with
  | some (.cells t n older false) =>
    match getCells t off vs.length with
    | none => none
    | some _ => bif allOne vs then some ((h.delAll older).set b (.cells (putCells t off vs) n [] false)) else none
  | _ => none

/-! ## types -/
def isAggD : TypeDesc → Bool
  | .struct _ | .array _ _ => true
  | _ => false
def zeroOf (P : Program) (t : TypeId) : Option AV :=
  match P.info? t with
  | some i => match i.zero with
    | some v => ofVal v
    | none => none
  | none => none
def sizeOfT (P : Program) (t : TypeId) : Option Nat := (P.info? t).map (·.size)

def aload (P : Program) (h : Hp) (t : TypeId) (b off : Nat) : Option AV :=
  match P.underlying t with
  | none => none
  | some d => bif isAggD d then
      match sizeOfT P t with
      | none => none
      | some n => match h.loadN b off n with
        | some vs => some (.agg vs)
        | none => none
    else h.load1 b off
def astore (P : Program) (h : Hp) (t : TypeId) (b off : Nat) (v : AV) : Option Hp :=
  match sizeOfT P t with
  | none => none
  | some n => bif Nat.beq v.cells.length n then h.storeN b off v.cells else none

def i64 (n : Int) : Bool := decide (-9223372036854775808 ≤ n) && decide (n ≤ 9223372036854775807)
def wrapK (k : IntKind) (n : Int) : Int := k.wrap n

def strEq (l n l' n' : Nat) : Bool := Nat.beq l l' && Nat.beq (Nat.mod n (Nat.pow 256 l)) (Nat.mod n' (Nat.pow 256 l'))

def aintOp (op : BinOp) (k : IntKind) (a b : Int) : Option AV :=
  match op with
  | .add => some (.int k (wrapK k (a + b)))
  | .sub => some (.int k (wrapK k (a - b)))
  | .mul => some (.int k (wrapK k (a * b)))
  | .quo => if b = 0 then none else some (.int k (wrapK k (a.tdiv b)))
  | .rem => if b = 0 then none else some (.int k (a.tmod b))
  | .eql => some (.bool (a == b))
  | .neq => some (.bool (a != b))
  | .lss => some (.bool (a < b))
  | .leq => some (.bool (a ≤ b))
  | .gtr => some (.bool (a > b))
  | .geq => some (.bool (a ≥ b))
  | .and => some (.int k (k.wrap (BitVec.ofInt k.bits a &&& BitVec.ofInt k.bits b).toNat))
  | .xor => some (.int k (k.wrap (BitVec.ofInt k.bits a ^^^ BitVec.ofInt k.bits b).toNat))
  | _ => none
def astrOp (op : BinOp) (l n l' n' : Nat) : Option AV :=
  match op with
  | .add => bif Nat.ble (l + l') 1000000000 then some (.str (l + l') (Nat.mod n (Nat.pow 256 l) + Nat.pow 256 l * n')) else none
  | .eql => some (.bool (strEq l n l' n'))
  | .neq => some (.bool (!strEq l n l' n'))
  | .lss => some (.bool (Op.bytesLess (natBytes l n) (natBytes l' n')))
  | .geq => some (.bool (!Op.bytesLess (natBytes l n) (natBytes l' n')))
  | _ => none

/-- '==' on two cells of plain data -/
def cellEq : AV → AV → Option Bool
  | .int k a, .int k' b => if k = k' then some (a == b) else none
  | .bool a, .bool b => some (a == b)
  | .str l n, .str l' n' => some (strEq l n l' n')
  | _, _ => none
def aeq (P : Program) (t : TypeId) (x y : AV) : Option Bool :=
  match P.underlying t, x, y with
  | some .bool, .bool a, .bool b => some (a == b)
  | some (.pointer _), .nilp, .nilp => some true
  | some (.pointer _), .nilp, .ptr _ _ => some false
  | some (.pointer _), .ptr _ _, .nilp => some false
  | some (.interface _), .nili, .iface _ _ => some false
  | some (.interface _), .iface _ _, .nili => some false
  | some (.func _ _ _), .nilf, .nilf => some true
  | some (.func _ _ _), .nilf, .func _ _ _ => some false
  | some (.func _ _ _), .func _ _ _, .nilf => some false
  | some (.slice _), .nils, .nils => some true
  | some (.slice _), .nils, .slice .. => some false
  | some (.slice _), .slice .., .nils => some false
  | _, _, _ => none
def abin (P : Program) (op : BinOp) (t : TypeId) (x y : AV) (litx lity : Bool) : Option AV :=
  match x, y with
  | .int k a, .int k' b =>
    match op with
    | .shl => if b < 0 then none else some (.int k (k.wrap (a * 2 ^ min b.toNat k.bits)))
    | .shr => if b < 0 then none else some (.int k (a.fdiv (2 ^ min b.toNat k.bits)))
    | _ => if k = k' then aintOp op k a b else none
  | .str l n, .str l' n' => astrOp op l n l' n'
  | .nili, .nili =>
    bif litx || lity then
      match P.underlying t, op with
      | some (.interface _), .eql => some (.bool true)
      | some (.interface _), .neq => some (.bool false)
      | _, _ => none
    else none
  | _, _ =>
    match op, aeq P t x y with
    | .eql, some b => some (.bool b)
    | .neq, some b => some (.bool (!b))
    | _, _ => none
def aun (op : UnOp) (x : AV) : Option AV :=
  match op, x with
  | .neg, .int k n => some (.int k (wrapK k (0 - n)))
  | .not, .bool b => some (.bool (!b))
  | _, _ => none

def bytesGo : List AV → Option Nat
  | [] => some 0
  | .int .u8 n :: vs => if 0 ≤ n ∧ n < 256 then (match bytesGo vs with
    | some m => some (n.toNat + 256 * m)
    | none => none) else none
  | _ => none
def bytesStr (vs : List AV) : Option AV :=
  match bytesGo vs with
  | some n => some (.str vs.length n)
  | none => none
def aconvert (P : Program) (h : Hp) (src dst : TypeId) (x : AV) : Option AV :=
  match P.underlying src, P.underlying dst, x with
  | some (.int _), some (.int k), .int _ n => some (.int k (wrapK k n))
  | some (.int _), some .string, .int _ n => if 0 ≤ n ∧ n < 128 then some (.str 1 n.toNat) else none
  | some .string, some .string, .str l n => some (.str l n)
  | some (.slice e), some .string, .slice b off len _ _ _ =>
    match P.underlying e, h.loadN b off len with
    | some (.int .u8), some vs => bytesStr vs
    | _, _ => none
  | _, _, _ => none

def aboundsAt (i : AV) (len : Nat) : Option Nat :=
  match i with
  | .int _ n => if 0 ≤ n ∧ n < len then some n.toNat else none
  | _ => none
def asBound (x : Option AV) : Option (Option Nat) :=
  match x with
  | none => some none
  | some (.int _ n) => if 0 ≤ n then some (some n.toNat) else none
  | some _ => none

def aslice (P : Program) (t : TypeId) (x : AV) (lo hi mx : Option Nat) : Option AV :=
  match P.underlying t, x with
  | some .string, .str len n =>
    match mx with
    | some _ => none
    | none =>
      let l := lo.getD 0
      let h := hi.getD len
      bif Nat.ble l h && Nat.ble h len then some (.str (h - l) (Nat.div n (Nat.pow 256 l))) else none
  | some (.slice e), .slice b off len cap esz exact =>
    let l := lo.getD 0
    let h := hi.getD len
    match sizeOfT P e with
    | none => none
    | some sz => bif Nat.beq sz esz && Nat.ble l h && Nat.ble h cap then
      match mx, hi with
      | some m, some _ => bif Nat.ble h m && Nat.ble m cap then some (.slice b (off + l * esz) (h - l) (m - l) esz true) else none
      | some _, none => none
      | none, _ => some (.slice b (off + l * esz) (h - l) (cap - l) esz exact)
      else none
  | some (.slice e), .nils =>
    match mx, hi, sizeOfT P e with
    | some _, none, _ => none
    | _, _, none => none
    | _, _, some _ => bif Nat.beq (lo.getD 0) 0 && Nat.beq (hi.getD 0) 0 && Nat.beq (mx.getD 0) 0 then some .nils else none
  | _, _ => none

def fillCells (place : Nat → Option (Nat × Nat)) (cells : List AV) : List (Nat × AV) → Option (List AV)
  | [] => some cells
  | (i, v) :: rest =>
    match place i with
    | none => none
    | some (off, size) =>
      bif Nat.beq v.cells.length size && Nat.ble (off + size) cells.length then
        fillCells place (cells.take off ++ v.cells ++ cells.drop (off + size)) rest
      else none
def abuild (P : Program) (t : TypeId) (parts : List (Nat × AV)) : Option AV :=
  match zeroOf P t, P.underlying t with
  | some z, some (.struct fs) =>
    match fillCells (fun i => match fs[i]? with
      | some f => match sizeOfT P f.type with
        | some s => some (f.offset, s)
        | none => none
      | none => none) z.cells parts with
    | some cs => bif fs.all (fun f => (sizeOfT P f.type).isSome) then some (.agg cs) else none
    | none => none
  | some z, some (.array _ e) =>
    match sizeOfT P e with
    | none => none
    | some s => match fillCells (fun i => some (i * s, s)) z.cells parts with
      | some cs => some (.agg cs)
      | none => none
  | _, _ => none
def repl (cs : List AV) : Nat → List AV
  | 0 => []
  | n+1 => cs ++ repl cs n
def abuildSlice (P : Program) (t : TypeId) (len : Nat) (parts : List (Nat × AV)) : Option (List AV × Nat) :=
  match P.underlying t with
  | some (.slice e) =>
    match sizeOfT P e, zeroOf P e with
    | some s, some z =>
      bif Nat.ble (len * s) 1000 && !(Nat.beq s 0) && Nat.beq z.cells.length s then
      match fillCells (fun i => some (i * s, s)) (repl z.cells len) parts with
      | some cs => some (cs, s)
      | none => none else none
    | _, _ => none
  | _ => none

/-! ## maps -/
def findK (k : AV) : List (AV × AV × Nat) → Nat → Option (Option (Nat × AV))
  | [], _ => some none
  | e :: es, i => match cellEq k e.1 with
    | some true => some (some (i, e.2.1))
    | some false => findK k es (Nat.succ i)
    | none => none
def plainKey : TypeDesc → AV → Bool
  | .int _, .int _ _ => true
  | .string, .str _ _ => true
  | .bool, .bool _ => true
  | _, _ => false
def setE (key val : AV) : List (AV × AV × Nat) → Nat → List (AV × AV × Nat)
  | [], _ => []
  | e :: es, 0 => (key, val, e.2.2) :: es
  | e :: es, i+1 => e :: setE key val es i
def bornAt : List (AV × AV × Nat) → Nat → Nat
  | [], _ => 0
  | e :: _, 0 => e.2.2
  | _ :: es, i+1 => bornAt es i
def setBorn (val : AV) (born : Nat) : List (AV × AV × Nat) → Option (List (AV × AV × Nat))
  | [] => none
  | e :: es => bif Nat.beq e.2.2 born then some ((e.1, val, e.2.2) :: es) else match setBorn val born es with
    | some r => some (e :: r)
    | none => none
def alookup (P : Program) (h : Hp) (t : TypeId) (x k : AV) (ok : Bool) : Option AV :=
  match P.underlying t with
  | some (.map kt et) =>
    match P.underlying kt, zeroOf P et with
    | some kd, some z =>
      bif plainKey kd k then
        let done (r : Option AV) : AV := match r with
          | some v => if ok then .tup [v, .bool true] else v
          | none => if ok then .tup [z, .bool false] else z
        match x with
        | .nilm => some (done none)
        | .map r => match h.look r with
          | some (.map es _) => match findK k es 0 with
            | some (some (_, v)) => some (done (some v))
            | some none => some (done none)
            | none => none
          | _ => none
        | _ => none
      else none
    | _, _ => none
  | _ => none
def amapUpdate (P : Program) (h : Hp) (t : TypeId) (x k v : AV) : Option Hp :=
  match P.underlying t, x with
  | some (.map kt _), .map r =>
    match P.underlying kt, h.look r with
    | some kd, some (.map es clock) =>
      bif plainKey kd k then
        match findK k es 0 with
        | some (some (i, _)) => some (h.set r (.map (setE k v es i) clock))
        | some none => some (h.set r (.map (es ++ [(k, v, clock)]) (Nat.succ clock)))
        | none => none
      else none
    | _, _ => none
  | _, _ => none
def amapEntry (P : Program) (h : Hp) (t : TypeId) (x k : AV) : Option (AV × Hp) :=
  match P.underlying t, x with
  | some (.map kt et), .map r =>
    match P.underlying kt, h.look r, zeroOf P et with
    | some kd, some (.map es clock), some z =>
      bif plainKey kd k then
        match findK k es 0 with
        | some (some (i, v)) => some (.tup [v, .int .i64 (bornAt es i)], h.set r (.map (setE k v es i) clock))
        | some none => some (.tup [z, .int .i64 clock], h.set r (.map (es ++ [(k, z, clock)]) (Nat.succ clock)))
        | none => none
      else none
    | _, _, _ => none
  | _, _ => none
def aentryStore (h : Hp) (x st v : AV) : Option Hp :=
  match x, st with
  | .map r, .int _ n =>
    if 0 ≤ n then
    match h.look r with
    | some (.map es clock) => match setBorn v n.toNat es with
      | some es' => some (h.set r (.map es' clock))
      | none => none
    | _ => none else none
  | _, _ => none

/-! ## append -/
/-- what an append adds, as cells, and how many elements -/
def added (P : Program) (h : Hp) (argTypes : Array TypeId) (e : TypeId) (sz : Nat) (x : AV) : Option (List AV × Nat) :=
  match argTypes[1]? with
  | none => none
  | some xt => match P.underlying xt, x with
    | some (.int _), .int .i64 n =>
      if 0 ≤ n ∧ n < 100000 then
        match zeroOf P e with
        | some z => bif Nat.beq z.cells.length sz && !(Nat.beq sz 0) then some (repl z.cells n.toNat, n.toNat) else none
        | none => none
      else none
    | some (.int _), _ => none
    | some _, .nils => some ([], 0)
    | some _, .slice b off len _ esz _ => bif Nat.beq esz sz then match h.loadN b off (len * sz) with
      | some vs => some (vs, len)
      | none => none else none
    | _, _ => none
/-- a store into the room of a slice: cells that may not be known yet -/
def storeRoom (h : Hp) (b off : Nat) (vs : List AV) : Option Hp :=
  match h.look b with
  | some (.cells t n older false) =>
    some ((h.delAll older).set b (.cells (putCells t off vs) (max n (off + vs.length)) [] false))
  | _ => none
def aappend (P : Program) (h : Hp) (argTypes : Array TypeId) (s x : AV) : Option (AV × Hp) :=
  match argTypes[0]? with
  | none => none
  | some st => match P.underlying st with
    | some (.slice e) =>
      match sizeOfT P e, P.info? e, zeroOf P e with
      | some sz, some inf, some z =>
        match added P h argTypes e sz x with
        | none => none
        | some (vs, n) =>
          bif Nat.beq z.cells.length sz && Nat.ble sz 40 && Nat.ble inf.bytes 1000 && Nat.ble 1 inf.bytes && Nat.ble 1 sz && allOne vs && Nat.ble n 1000000 then
          match s with
          | .nils => bif Nat.beq n 0 then some (.nils, h) else some (.slice h.nb 0 n n sz false, h.newCells vs)
          | .slice b off len cap esz exact =>
            bif Nat.beq esz sz && Nat.ble len 1000000 && Nat.ble cap 1000000 then
              bif Nat.ble (len + n) cap then
                -- there is room
                (bif Nat.beq n 0 then some (.slice b off len cap esz exact, h) else
                match storeRoom h b (off + len * sz) vs with
                | some h' => some (.slice b off (len + n) cap esz exact, h')
                | none => none)
              else match h.loadN b off (len * sz) with
                | none => none
                | some old => bif exact then some (.slice h.nb 0 (len + n) (len + n) sz false, h.newCells (old ++ vs)) else
                  -- there may be room, or not
                  match h.look b with
                  | some (.cells t k older false) =>
                    bif Nat.ble k (off + len * sz) then
                      some (.slice h.nb 0 (len + n) (len + n) sz false,
                        (h.set b (.cells t k older true)).new (.cells (bif Nat.beq off 0 then putCells t (len * sz) vs else putCells .leaf 0 (old ++ vs)) (old.length + vs.length) (b :: older) false))
                    else none
                  | _ => none
            else none
          | _ => none
          else none
      | _, _, _ => none
    | _ => none
end
end Go.Hb

namespace Go.Hb
noncomputable section

mutual
def AV.same : AV → AV → Bool
  | .bool a, .bool b => a == b
  | .int k n, .int k' n' => decide (k = k') && decide (n = n')
  | .str l n, .str l' n' => Nat.beq l l' && Nat.beq n n'
  | .ptr b o, .ptr b' o' => Nat.beq b b' && Nat.beq o o'
  | .nilp, .nilp => true
  | .slice b o l c e x, .slice b' o' l' c' e' x' => Nat.beq b b' && Nat.beq o o' && Nat.beq l l' && Nat.beq c c' && Nat.beq e e' && x == x'
  | .nils, .nils => true
  | .map r, .map r' => Nat.beq r r'
  | .nilm, .nilm => true
  | .func f fs cs, .func f' fs' cs' => Nat.beq f f' && AV.sameL fs fs' && AV.sameL cs cs'
  | .yield l, .yield l' => Nat.beq l l'
  | .nilf, .nilf => true
  | .iface t v, .iface t' v' => Nat.beq t t' && AV.same v v'
  | .nili, .nili => true
  | .agg vs, .agg vs' => AV.sameL vs vs'
  | .tup vs, .tup vs' => AV.sameL vs vs'
  | .ilst e xs x, .ilst e' xs' x' => Nat.beq e e' && AV.sameL xs xs' && x == x'
  | .iptr cs, .iptr cs' => AV.sameL cs cs'
  | .gl b e o l x, .gl b' e' o' l' x' => Nat.beq b b' && Nat.beq e e' && Nat.beq o o' && Nat.beq l l' && x == x'
  | .ep b e i o, .ep b' e' i' o' => Nat.beq b b' && Nat.beq e e' && Nat.beq i i' && Nat.beq o o'
  | _, _ => false
def AV.sameL : List AV → List AV → Bool
  | [], [] => true
  | a :: as, b :: bs => AV.same a b && AV.sameL as bs
  | _, _ => false
end

inductive AItem where
  | code (c : Code)
  | inBlock (id : Nat)
  | inLoop (c : Code)
  | inScope (c : Code)
  | ops (all : Array Oper) (i : Nat) (rest : List Oper)
  | inRF (l : Nat)
  | endRF (l : Nat)
  | beginRound
  deriving Inhabited
inductive AMode where
  | run
  | ret
  | pan (chain : List (AV × Bool))
  deriving Inhabited
structure AFrame where
  fn : Nat
  tm : T AV
  nt : Nat
  todo : List AItem
  defers : List ADef
  mode : AMode
  kind : CallKind
  roundOf : Option Nat
  deriving Inhabited
structure AS where
  fr : AFrame
  cs : List AFrame
  h : Hp
  deriving Inhabited

inductive AIn where
  | enter (f : Nat) (args : List AV)
  | round (l : Nat) (args : List AV)
inductive AOut where
  | val (v : AV) (h : Hp)
  | call (c : AIn)
  | defer (d : ADef)
  | panic (v : AV)
  | recover

def aeval (tm : T AV) : Operand → Option AV
  | .tmp t => tm.at t
  | .const v => ofVal v
  | .global _ => none
  | .func f => some (.func f [] [])
def aevals (tm : T AV) : List Operand → Option (List AV)
  | [] => some []
  | x :: xs => match aeval tm x, aevals tm xs with
    | some v, some vs => some (v :: vs)
    | _, _ => none
def aevalO (tm : T AV) : Option Operand → Option (Option AV)
  | none => some none
  | some x => match aeval tm x with
    | some v => some (some v)
    | none => none
def aparts (tm : T AV) : List (Nat × Operand) → Option (List (Nat × AV))
  | [] => some []
  | (i, x) :: xs => match aeval tm x, aparts tm xs with
    | some v, some vs => some ((i, v) :: vs)
    | _, _ => none
def isLit : Operand → Bool
  | .const _ => true
  | _ => false

/-- may it be entered -/
def callable (P : Program) (f : Nat) : Bool :=
  match P.funcs[f]? with
  | some fn => fn.body.isSome && !(fn.name == "runtime.NumGoroutine")
  | none => false
/-- the method of a dynamic type that takes the value as it is -/
def methodOf (P : Program) (t : TypeId) (name : String) : Option Nat :=
  match P.info? t with
  | none => none
  | some i => match i.methods.find? (·.name == name) with
    | none => none
    | some m => match m.path.toList, m.func, P.underlying t with
      | [], some (f, true), some (.pointer _) => some f
      | [], some (_, false), some (.pointer _) => none
      | [], some (f, false), some _ => some f
      | _, _, _ => none

def aenter (P : Program) (f : Nat) (args : List AV) : Option AOut :=
  bif callable P f then some (.call (.enter f args)) else none
def ainvoke (P : Program) (recv : AV) (name : String) (args : List AV) : Option AOut :=
  match recv with
  | .iface t v => match methodOf P t name with
    | some f => aenter P f (v :: args)
    | none => none
  | _ => none
def acallV (P : Program) (f : AV) (args : List AV) : Option AOut :=
  match f with
  | .func f first cap => aenter P f (first ++ args ++ cap)
  | .yield l => some (.call (.round l args))
  | .meth name recv => ainvoke P recv name args
  | .via t f pr recv => match P.underlying t, pr with
    | some (.pointer _), true => aenter P f (recv :: args)
    | some (.pointer _), false => none
    | some _, false => aenter P f (recv :: args)
    | _, _ => none
  | _ => none
def alen (P : Program) (h : Hp) (t : TypeId) (x : AV) : Option AV :=
  match P.underlying t, x with
  | some .string, .str l _ => some (.int .i64 l)
  | some (.array n _), _ => some (.int .i64 n)
  | some (.slice _), .slice _ _ l _ _ _ => some (.int .i64 l)
  | some (.slice _), .nils => some (.int .i64 0)
  | some (.map _ _), .nilm => some (.int .i64 0)
  | some (.map _ _), .map r => match h.look r with
    | some (.map es _) => some (.int .i64 es.length)
    | _ => none
  | _, _ => none
def acap (P : Program) (t : TypeId) (x : AV) : Option AV :=
  match P.underlying t, x with
  | some (.slice _), .slice _ _ _ c _ true => some (.int .i64 c)
  | some (.slice _), .nils => some (.int .i64 0)
  | _, _ => none
def abuiltin (P : Program) (h : Hp) (b : Builtin) (argTypes : Array TypeId) (args : List AV) : Option AOut :=
  match b, args with
  | .len, [x] => match argTypes[0]? with
    | some t => match alen P h t x with
      | some v => some (.val v h)
      | none => none
    | none => none
  | .cap, [x] => match argTypes[0]? with
    | some t => match acap P t x with
      | some v => some (.val v h)
      | none => none
    | none => none
  | .append, [s, x] => match aappend P h argTypes s x with
    | some (v, h') => some (.val v h')
    | none => none
  | .max, [.int k a, .int _ b] => some (.val (.int k (if b > a then b else a)) h)
  | .min, [.int k a, .int _ b] => some (.val (.int k (if b < a then b else a)) h)
  | .panic, [.iface t v] => some (.panic (.iface t v))
  | .recover, [] => some .recover
  | _, _ => none
def acall (P : Program) (h : Hp) (tm : T AV) (c : Call) : Option AOut :=
  match aevals tm c.args.toList with
  | none => none
  | some args => match c.callee with
    | .value f => match aeval tm f with
      | some fv => acallV P fv args
      | none => none
    | .invoke r name => match aeval tm r with
      | some rv => ainvoke P rv name args
      | none => none
    | .builtin b => abuiltin P h b c.argTypes args
def val (v : Option AV) (h : Hp) : Option AOut :=
  match v with
  | some v => some (.val v h)
  | none => none
def valH (r : Option (AV × Hp)) : Option AOut :=
  match r with
  | some (v, h) => some (.val v h)
  | none => none
def skipH (r : Option Hp) : Option AOut :=
  match r with
  | some h => some (.val .undef h)
  | none => none
def ev1 (tm : T AV) (x : Operand) (k : AV → Option AOut) : Option AOut :=
  match aeval tm x with
  | some v => k v
  | none => none
def ev2 (tm : T AV) (x y : Operand) (k : AV → AV → Option AOut) : Option AOut :=
  match aeval tm x with
  | some v => match aeval tm y with
    | some u => k v u
    | none => none
  | none => none
def afield (P : Program) (t : TypeId) (i : Nat) : Option Nat :=
  match P.underlying t with
  | some (.struct fs) => match fs[i]? with
    | some f => match sizeOfT P f.type with
      | some (_+1) => some f.offset
      | _ => none
    | none => none
  | _ => none
def adec (len n pos : Nat) : Option (Nat × Nat) :=
  bif Nat.blt pos len then
    (let c := Nat.mod (Nat.div n (Nat.pow 256 pos)) 256
    bif Nat.blt c 128 then some (c, 1) else some (Utf8.decode ⟨⟨natBytes len n⟩⟩ pos))
  else none

def atypeAssert (P : Program) (asserted : TypeId) (ok : Bool) (a : AV) : Option AV :=
  match P.underlying asserted with
  | none => none
  | some (.interface _) => none
  | some _ => match a with
    | .nili => bif ok then (match zeroOf P asserted with
        | some z => some (.tup [z, .bool false])
        | none => none) else none
    | .iface t v => bif Nat.beq t asserted then some (bif ok then .tup [v, .bool true] else v)
        else bif ok then (match zeroOf P asserted with
        | some z => some (.tup [z, .bool false])
        | none => none) else none
    | _ => none
def memB (t : Nat) : List Nat → Bool
  | [] => false
  | x :: xs => Nat.beq x t || memB t xs
/-- the entries that an iterator may give next -/
def mcands (es : List (AV × AV × Nat)) (since : Nat) (seen : List Nat) : List (Option (AV × AV × Nat)) :=
  let left := es.filter fun e => !(memB e.2.2 seen)
  let old := left.filter fun e => Nat.blt e.2.2 since
  let new := left.filter fun e => !(Nat.blt e.2.2 since)
  (if old.isEmpty then [none] else []) ++ (old ++ new).map some
def mout (h : Hp) (r m since : Nat) (seen : List Nat) (clock : Nat) : Option (AV × AV × Nat) → AV × Hp
  | some e => (.tup [.bool true, e.1, e.2.1], h.set r (.miter m since (seen ++ [e.2.2]) clock))
  | none => (.tup [.bool false], h)
/-- all that an iterator may give next -/
def mouts (h : Hp) (r : Nat) : Option (List (AV × Hp)) :=
  match h.look r with
  | some (.miter m since seen last) => match h.look m with
    | some (.map es clock) =>
      bif !seen.isEmpty && !es.isEmpty && es.all (fun e => Nat.ble last e.2.2) then none
      else some ((mcands es since seen).map (mout h r m since seen clock))
    | _ => none
  | _ => none
/-- the entry that an iterator gave last -/
def mentry (h : Hp) (r : Nat) : Option AV :=
  match h.look r with
  | some (.miter m _ seen last) => match seen.getLast?, h.look m with
    | some stamp, some (.map es clock) => bif Nat.beq clock last then (match es.find? (fun e => Nat.beq e.2.2 stamp) with
      | some e => some (.tup [e.1, e.2.1])
      | none => none) else none
    | _, _ => none
  | _ => none
/-- one operation -/
def aop0 (P : Program) (h : Hp) (tm : T AV) (o : Oper) : Option AOut :=
  match o.op with
  | .move x | .assign x => val (aeval tm x) h
  | .pick c a b => match aeval tm c with
    | some (.bool true) => val (aeval tm a) h
    | some (.bool false) => val (aeval tm b) h
    | _ => none
  | .alloc e => match zeroOf P e with
    | some z => some (.val (.ptr h.nb 0) (h.newCells z.cells))
    | none => none
  | .box _ x => ev1 tm x fun v => some (.val (.ptr h.nb 0) (h.newCells v.cells))
  | .build t ps => match aparts tm ps.toList with
    | some l => val (abuild P t l) h
    | none => none
  | .buildSlice t len ps => match aparts tm ps.toList with
    | some l => match abuildSlice P t len l with
      | some (cs, s) => some (.val (.slice h.nb 0 len len s true) (h.newCells cs))
      | none => none
    | none => none
  | .load t a => ev1 tm a fun
    | .ptr b off => val (aload P h t b off) h
    | _ => none
  | .store t a x => ev2 tm a x fun
    | .ptr b off, v => skipH (astore P h t b off v)
    | _, _ => none
  | .nilCheck x => ev1 tm x fun
    | .nilp => none
    | .nili => none
    | .nilf => none
    | .val _ => none
    | .meth name (.iface t v) => match methodOf P t name with
      | some _ => some (.val (.meth name (.iface t v)) h)
      | none => none
    | .meth _ _ => none
    | v => some (.val v h)
  | .binOp op t x y _ => ev2 tm x y fun a b => val (abin P op t a b (isLit x) (isLit y)) h
  | .unOp op _ x => ev1 tm x fun a => val (aun op a) h
  | .convert s d x => ev1 tm x fun a => val (aconvert P h s d a) h
  | .makeInterface t x => ev1 tm x fun a => match P.underlying t with
    | some (.interface _) => none
    | some _ => some (.val (.iface t a) h)
    | none => none
  | .makeFunc (.func f) first cap => match aevals tm first.toList, aevals tm cap.toList with
    | some fs, some cs => some (.val (.func f fs cs) h)
    | _, _ => none
  | .makeFunc (.method name) first cap => match aevals tm first.toList with
    | some [r] => bif cap.isEmpty then some (.val (.meth name r) h) else none
    | _ => none
  | .makeFunc (.via t path f pr) first cap => match path.toList, aevals tm first.toList with
    | [], some [r] => bif cap.isEmpty then some (.val (.via t f pr r) h) else none
    | _, _ => none
  | .makeMap _ none => some (.val (.map h.nb) (h.new (.map [] 0)))
  | .makeSlice t l c => ev2 tm l c fun
    | .int _ l, .int _ c => match P.underlying t with
      | some (.slice e) => match sizeOfT P e, zeroOf P e, P.info? e with
        | some s, some z, some inf =>
          if 0 ≤ l ∧ l ≤ c ∧ c < 100000 then
            bif Nat.ble s 40 && Nat.ble 1 s && Nat.beq z.cells.length s && Nat.ble inf.bytes 1000 then
              some (.val (.slice h.nb 0 l.toNat c.toNat s true) (h.newCells (repl z.cells c.toNat)))
            else none
          else none
        | _, _, _ => none
      | _ => none
    | _, _ => none
  | .slice t x lo hi mx => ev1 tm x fun a =>
    match aevalO tm lo, aevalO tm hi, aevalO tm mx with
    | some lo, some hi, some mx => match asBound lo, asBound hi, asBound mx with
      | some lo, some hi, some mx => val (aslice P t a lo hi mx) h
      | _, _, _ => none
    | _, _, _ => none
  | .fieldAddr t x f => ev1 tm x fun
    | .ptr b off => match afield P t f with
      | some o => some (.val (.ptr b (off + o)) h)
      | none => none
    | _ => none
  | .field t x f => ev1 tm x fun
    | .agg cs => match P.underlying t with
      | some (.struct fs) => match fs[f]? with
        | some f => match P.underlying f.type, sizeOfT P f.type with
          | some d, some s => bif isAggD d then some (.val (.agg ((cs.drop f.offset).take s)) h) else val cs[f.offset]? h
          | _, _ => none
        | none => none
      | _ => none
    | _ => none
  | .indexAddr t x i => ev2 tm x i fun a i =>
    match P.underlying t, a with
    | some (.slice e), .slice b off len _ esz _ => match aboundsAt i len, sizeOfT P e with
      | some k, some s => bif Nat.beq s esz then some (.val (.ptr b (off + k * esz)) h) else none
      | _, _ => none
    | some (.array len e), .ptr b off => match aboundsAt i len, sizeOfT P e with
      | some k, some s => some (.val (.ptr b (off + k * s)) h)
      | _, _ => none
    | _, _ => none
  | .index t x i => ev2 tm x i fun a i =>
    match P.underlying t, a with
    | some .string, .str l n => match aboundsAt i l with
      | some k => some (.val (.int .u8 (Nat.mod (Nat.div n (Nat.pow 256 k)) 256)) h)
      | none => none
    | some (.array len e), .agg cs => match aboundsAt i len, P.underlying e, sizeOfT P e with
      | some k, some d, some s => bif isAggD d then some (.val (.agg ((cs.drop (k * s)).take s)) h) else val cs[k * s]? h
      | _, _, _ => none
    | _, _ => none
  | .lookup t x k ok => ev2 tm x k fun a k => val (alookup P h t a k ok) h
  | .mapUpdate t m k x | .insert t m k x => ev2 tm m k fun m k => ev1 tm x fun v => skipH (amapUpdate P h t m k v)
  | .mapEntry t m k => ev2 tm m k fun m k => valH (amapEntry P h t m k)
  | .entryStore _ m s x => ev2 tm m s fun m s => ev1 tm x fun v => skipH (aentryStore h m s v)
  | .range t x => ev1 tm x fun a => match P.underlying t, a with
    | some .string, .str l n => some (.val (.ptr h.nb 0) (h.new (.siter l n 0)))
    | some (.map _ _), .map m => match h.look m with
      | some (.map _ clock) => some (.val (.ptr h.nb 0) (h.new (.miter m clock [] clock)))
      | _ => none
    | _, _ => none
  | .next it false => ev1 tm it fun
    | .ptr r 0 => match mouts h r with
      | some [(v, h')] => some (.val v h')
      | _ => none
    | _ => none
  | .next it true => ev1 tm it fun
    | .ptr r 0 => match h.look r with
      | some (.siter l n pos) =>
        bif Nat.blt pos l then match adec l n pos with
          | some (c, d) => some (.val (.tup [.bool true, .int .i64 pos, .int .i32 c]) (h.set r (.siter l n (Nat.add pos d))))
          | none => none
        else some (.val (.tup [.bool false]) h)
      | _ => none
    | _ => none
  | .entry it => ev1 tm it fun
    | .ptr r 0 => val (mentry h r) h
    | _ => none
  | .typeAssert x _ asserted ok => ev1 tm x fun a => val (atypeAssert P asserted ok a) h
  | .extract x i => ev1 tm x fun
    | .tup vs => val vs[i]? h
    | _ => none
  | .call c => acall P h tm c
  | .defer c => match aevals tm c.args.toList, c.callee with
    | some args, .value f => match aeval tm f with
      | some (.func f first cap) => bif callable P f then some (.defer (.fn f (first ++ args ++ cap))) else none
      | _ => none
    | _, _ => none
  | .panic x => ev1 tm x fun
    | .iface t v => some (.panic (.iface t v))
    | _ => none
  | _ => none

/-! ## one operation on lists -/
mutual
def AV.keyless : AV → Bool
  | .ptr _ _ | .slice .. | .map _ | .yield _ | .gl .. | .ep .. => false
  | .func _ fs cs => AV.keylessL fs && AV.keylessL cs
  | .meth _ r => AV.keyless r
  | .via _ _ _ r => AV.keyless r
  | .iface _ v => AV.keyless v
  | .agg vs => AV.keylessL vs
  | .tup vs => AV.keylessL vs
  | _ => true
def AV.keylessL : List AV → Bool
  | [] => true
  | a :: as => AV.keyless a && AV.keylessL as
end
def chunk (agg : Bool) (e : Nat) : Nat → List AV → List AV
  | 0, _ => []
  | n+1, cs => (bif agg then .agg (cs.take e) else cs.headD .undef) :: chunk agg e n (cs.drop e)
def loadI (P : Program) (t : TypeId) (cs : List AV) : Option AV :=
  match P.underlying t with
  | none => none
  | some d => bif isAggD d then
      match sizeOfT P t with
      | none => none
      | some n => bif Nat.ble n cs.length then some (.agg (cs.take n)) else none
    else cs[0]?
def setAt (cs : List AV) (o : Nat) (vs : List AV) : List AV := cs.take o ++ vs ++ cs.drop (o + vs.length)
def setElem (x : AV) (o : Nat) (vs : List AV) : Option AV :=
  match x with
  | .agg cs => bif Nat.ble (o + vs.length) cs.length then some (.agg (setAt cs o vs)) else none
  | .tup _ => none
  | .val _ => none
  | _ => match o, vs with
    | 0, [v] => some v
    | _, _ => none
def isSl (P : Program) (t : TypeId) (e : Nat) : Bool :=
  match P.underlying t with
  | some (.slice el) => match sizeOfT P el with
    | some s => Nat.beq s e
    | none => false
  | _ => false
def vslice (P : Program) (t : TypeId) (x : AV) (lo hi mx : Option Nat) : Option AV :=
  match x with
  | .ilst e xs ex => bif isSl P t e then
      (let l := lo.getD 0
      let u := hi.getD xs.length
      match mx, hi with
      | none, _ => if l ≤ u ∧ u ≤ xs.length then some (.ilst e ((xs.drop l).take (u - l)) (ex && Nat.beq u xs.length)) else none
      | some m, some _ => if l ≤ u ∧ u ≤ m ∧ m ≤ xs.length then some (.ilst e ((xs.drop l).take (u - l)) (Nat.beq u m)) else none
      | _, _ => none) else none
  | .gl b e off len ex => bif isSl P t e then
      (let l := lo.getD 0
      let u := hi.getD len
      match mx, hi with
      | none, _ => if l ≤ u ∧ u ≤ len then some (.gl b e (off + l) (u - l) (ex && Nat.beq u len)) else none
      | some m, some _ => if l ≤ u ∧ u ≤ m ∧ m ≤ len then some (.gl b e (off + l) (u - l) (Nat.beq u m)) else none
      | _, _ => none) else none
  | _ => none
/-- the elements that an append adds -/
def addedE (P : Program) (h : Hp) (el : TypeId) (e : Nat) (x : AV) : Option (List AV) :=
  match P.underlying el, x with
  | some _, .nils => some []
  | some d, .slice b off len _ esz _ => bif Nat.beq esz e then match h.loadN b off (len * e) with
    | some vs => bif allOne vs && (isAggD d || Nat.beq e 1) then some (chunk (isAggD d) e len vs) else none
    | none => none else none
  | some _, .ilst e' ys _ => bif Nat.beq e' e then some ys else none
  | some _, .gl b e' off len _ => bif Nat.beq e' e then match h.look b with
    | some (.lst e2 ys) => if e2 = e ∧ off + len ≤ ys.length then some ((ys.drop off).take len) else none
    | _ => none else none
  | _, _ => none
def vappend (P : Program) (h : Hp) (argTypes : Array TypeId) (s x : AV) : Option (AV × Hp) :=
  match argTypes[0]?, argTypes[1]? with
  | some st, some xt => match P.underlying st, P.underlying xt with
    | some (.slice el), some (.slice _) =>
      match sizeOfT P el, P.info? el, zeroOf P el with
      | some e, some inf, some z =>
        match addedE P h el e x with
        | none => none
        | some ys =>
          bif Nat.beq z.cells.length e && Nat.ble e 40 && Nat.ble inf.bytes 1000 && Nat.ble 1 inf.bytes && Nat.ble 1 e then
          match s with
          | .nils => if ys.length ≤ 1000000 then some (.gl h.nb e 0 ys.length false, h.new (.lst e ys)) else none
          | .gl b e' off len _ => match h.look b with
            | some (.lst e2 xs) => if e' = e ∧ e2 = e ∧ off + len ≤ xs.length ∧ len + ys.length ≤ 1000000 then
                some (.gl h.nb e 0 (len + ys.length) false, (h.del b).new (.lst e ((xs.drop off).take len ++ ys))) else none
            | _ => none
          | .ilst e' [] true => if e' = e ∧ ys.length ≤ 1000000 then some (.gl h.nb e 0 ys.length false, h.new (.lst e ys)) else none
          | .ilst e' (y :: xs) true => if e' = e ∧ AV.keylessL ys = true ∧ (y :: xs).length + ys.length ≤ 1000000 then some (.ilst e (y :: xs ++ ys) false, h) else none
          | _ => none
          else none
      | _, _, _ => none
    | _, _ => none
  | _, _ => none
/-- '==' on structs of plain fields, each of one cell -/
def structEq (P : Program) : List Field → Nat → List AV → List AV → Option Bool
  | [], _, [], [] => some true
  | f :: fs, k, x :: xs, y :: ys =>
    match P.underlying f.type with
    | some d => bif Nat.beq f.offset k && (f.name != "_") && plainKey d x && plainKey d y then
        match cellEq x y, structEq P fs (Nat.succ k) xs ys with
        | some a, some b => some (a && b)
        | _, _ => none
      else none
    | none => none
  | _, _, _, _ => none
def vop (P : Program) (h : Hp) (tm : T AV) (o : Oper) : Option AOut :=
  match o.op with
  | .load t a => ev1 tm a fun
    | .iptr cs => val (loadI P t cs) h
    | .ep b e i k => match h.look b with
      | some (.lst e' xs) => bif Nat.beq e' e then match xs[i]? with
        | some x => val (loadI P t (x.cells.drop k)) h
        | none => none else none
      | _ => none
    | _ => none
  | .store t a x => ev2 tm a x fun
    | .ep b e i k, v => match h.look b, sizeOfT P t with
      | some (.lst e' xs), some n => bif Nat.beq e' e && Nat.beq v.cells.length n && Nat.ble (k + n) e && allOne v.cells then match xs[i]? with
        | some y => match setElem y k v.cells with
          | some y' => some (.val .undef (h.set b (.lst e (xs.set i y'))))
          | none => none
        | none => none else none
      | _, _ => none
    | _, _ => none
  | .fieldAddr t x f => ev1 tm x fun
    | .iptr cs => match afield P t f with
      | some k => bif Nat.blt k cs.length then some (.val (.iptr (cs.drop k)) h) else none
      | none => none
    | .ep b e i k => match afield P t f with
      | some k' => some (.val (.ep b e i (k + k')) h)
      | none => none
    | _ => none
  | .indexAddr t x i => ev2 tm x i fun a i =>
    match a with
    | .ilst e xs _ => bif isSl P t e then match aboundsAt i xs.length with
      | some k => match xs[k]? with
        | some y => some (.val (.iptr y.cells) h)
        | none => none
      | none => none else none
    | .gl b e off len _ => bif isSl P t e then match aboundsAt i len with
      | some k => some (.val (.ep b e (off + k) 0) h)
      | none => none else none
    | _ => none
  | .slice t x lo hi mx => ev1 tm x fun a =>
    match aevalO tm lo, aevalO tm hi, aevalO tm mx with
    | some lo, some hi, some mx => match asBound lo, asBound hi, asBound mx with
      | some lo, some hi, some mx => val (vslice P t a lo hi mx) h
      | _, _, _ => none
    | _, _, _ => none
  | .binOp op t x y _ => ev2 tm x y fun
    | .agg xs, .agg ys => match P.underlying t with
      | some (.struct fs) => bif !(P.eqGuardType P.depth t) && !(P.stoodInHeld t) then
          match op, structEq P fs.toList 0 xs ys with
          | .eql, some b => some (.val (.bool b) h)
          | .neq, some b => some (.val (.bool (!b)) h)
          | _, _ => none else none
      | _ => none
    | _, _ => none
  | .call c => match c.callee, aevals tm c.args.toList with
    | .builtin .len, some [x] => match c.argTypes[0]?, x with
      | some t, .ilst _ xs _ => match P.underlying t with
        | some (.slice _) => some (.val (.int .i64 xs.length) h)
        | _ => none
      | some t, .gl _ _ _ len _ => match P.underlying t with
        | some (.slice _) => some (.val (.int .i64 len) h)
        | _ => none
      | _, _ => none
    | .builtin .append, some [s, x] => valH (vappend P h c.argTypes s x)
    | _, _ => none
  | _ => none
def aop (P : Program) (h : Hp) (tm : T AV) (o : Oper) : Option AOut :=
  match aop0 P h tm o with
  | some r => some r
  | none => vop P h tm o

/-! ## regions -/
def gotBool (tm : T AV) (ops : List Oper) (j : Nat) : Option (Option Bool) :=
  match ops[j]? with
  | none => some none
  | some o => match o.dst with
    | none => some none
    | some d => match tm.at d with
      | some (.bool b) => some (some b)
      | some (.val _) => none
      | some _ => some none
      | none => none
/-- is the operation carried out (none: not known) -/
def awanted (tm : T AV) (ops : List Oper) (o : Oper) : Option Bool :=
  match o.guard with
  | none => some true
  | some (j, want) => match gotBool tm ops j with
    | none => none
    | some none => some false
    | some (some b) => some (b == want)
def aput (tm : T AV) (nt : Nat) (dst : Option Nat) (v : AV) : Option (T AV) :=
  match dst with
  | none => some tm
  | some d => bif Nat.blt d nt then some (tm.put d v) else none

inductive Kd where | pure | read | fresh | eff
  deriving Inhabited, DecidableEq
def kdOf : Op → Kd
  | .move _ | .assign _ | .pick .. | .build .. | .nilCheck _ | .binOp .. | .unOp .. | .makeInterface .. | .makeFunc .. | .slice .. | .fieldAddr .. | .field .. | .indexAddr .. | .index .. | .extract .. | .typeAssert .. => .pure
  | .load .. | .lookup .. | .convert .. => .read
  | .alloc _ | .buildSlice .. => .fresh
  | .call c => match c.callee with
    | .builtin .len => .read
    | .builtin .cap | .builtin .max | .builtin .min => .pure
    | _ => .eff
  | _ => .eff
/-- for each operation, which come before it whatever the order: numbers of bits -/
def edgesBefore (bs : List Nat) : List Edge → Nat
  | [] => 0
  | e :: es => bif Region.binds .any e then Nat.lor (Nat.lor (Nat.pow 2 e.on) (bs.getD e.on 0)) (edgesBefore bs es) else edgesBefore bs es
def befores : List Oper → List Nat → List Nat
  | [], bs => bs
  | o :: os, bs => befores os (bs ++ [edgesBefore bs o.after.toList])
def effs : List Oper → Nat → List Nat
  | [], _ => []
  | o :: os, i => match kdOf o.op with
    | .eff => i :: effs os (Nat.succ i)
    | _ => effs os (Nat.succ i)
def chained (bs : List Nat) : List Nat → Bool
  | e :: f :: es => Nat.testBit (bs.getD f 0) e && chained bs (f :: es)
  | _ => true
/-- after how many effects at the least -/
def loOf (b : Nat) : List Nat → Nat → Nat
  | [], _ => 0
  | e :: es, k => bif Nat.testBit b e then max (Nat.succ k) (loOf b es (Nat.succ k)) else loOf b es (Nat.succ k)
/-- .. at the most -/
def hiOf (bs : List Nat) (i : Nat) : List Nat → Nat → Nat
  | [], k => k
  | e :: es, k => bif Nat.testBit (bs.getD e 0) i then k else hiOf bs i es (Nat.succ k)
structure Plan where
  o : Oper
  kd : Kd
  lo : Nat
  hi : Nat
  deriving Inhabited
def plansGo (bs es : List Nat) : List Oper → Nat → List Plan
  | [], _ => []
  | o :: os, i => { o, kd := kdOf o.op, lo := loOf (bs.getD i 0) es 0, hi := hiOf bs i es 0 } :: plansGo bs es os (Nat.succ i)
def countFresh : List Plan → Nat
  | [] => 0
  | p :: ps => match p.kd with
    | .fresh => Nat.succ (countFresh ps)
    | _ => countFresh ps
/-- the temporaries that an operation names -/
def namesOf (ops : List Oper) (o : Oper) : List Nat :=
  o.dst.toList ++ ((o.op.operands.toList.filterMap fun | .tmp t => some t | _ => none) ++
  (match o.guard with
    | some (g, _) => match ops[g]? with
      | some og => og.dst.toList
      | none => []
    | none => []))
def memN (t : Nat) : List Nat → Bool
  | [] => false
  | x :: xs => Nat.beq x t || memN t xs
/-- whoever else writes what is named comes before or behind, whatever the order -/
def wOkAt (bs : List Nat) (i : Nat) (names : List Nat) : List Oper → Nat → Bool
  | [], _ => true
  | o :: os, k => (match o.dst with
      | some d => !(memN d names) || Nat.beq k i || (Nat.blt k i && Nat.testBit (bs.getD i 0) k) || (Nat.blt i k && Nat.testBit (bs.getD k 0) i)
      | none => true) && wOkAt bs i names os (Nat.succ k)
def wOk (bs : List Nat) (ops : List Oper) : List Oper → Nat → Bool
  | [], _ => true
  | o :: os, i => wOkAt bs i (namesOf ops o) ops 0 && wOk bs ops os (Nat.succ i)
/-- by some rank, each operation stands behind those that its edges name -/
def edgesRank (md : Region.Mode) (n : Nat) (rk : List Nat) (i : Nat) : List Edge → Bool
  | [] => true
  | e :: es => (!(Region.binds md e) || (Nat.blt e.on n && Nat.blt (rk.getD e.on 0) (rk.getD i 0))) && edgesRank md n rk i es
def rankOk (md : Region.Mode) (n : Nat) (rk : List Nat) : List Oper → Nat → Bool
  | [], _ => true
  | o :: os, i => edgesRank md n rk i o.after.toList && rankOk md n rk os (Nat.succ i)
structure RPlan where
  ok : Bool
  fresh : Nat
  ops : List Oper
  plans : List Plan
  deriving Inhabited
def rplan (ops : Array Oper) : RPlan :=
  let l := ops.toList
  let bs := befores l []
  let es := effs l 0
  let ps := plansGo bs es l 0
  let n := ops.size
  let id := List.range n
  let gc := Region.linearise .gc ops 0
  { ok := chained bs es && wOk bs l l 0 && rankOk .any n id l 0 && rankOk .text n id l 0 && rankOk .gc n (id.map fun i => gc.idxOf i) l 0, fresh := countFresh ps, ops := l, plans := ps }

abbrev Oracle := Nat → AIn → Hp → Option (AV × Hp)

structure Again where
  o : Oper
  tm : T AV
  lo : Nat
  hi : Nat
  v : AV
  deriving Inhabited
structure RS where
  tm : T AV
  h : Hp
  stages : List Hp      -- the heaps before the effects so far, the last one first
  s : Nat
  pend : List (Nat × Nat × AObj)
  next : Nat
  again : List Again
  deriving Inhabited

def insertPend (h : Hp) (k : Nat) : List (Nat × Nat × AObj) → Hp
  | [] => h
  | (a, id, o) :: ps => bif Nat.beq a k then (insertPend h k ps).set id o else insertPend h k ps
def afresh (P : Program) (tm : T AV) (id : Nat) (o : Oper) : Option (AV × AObj) :=
  match o.op with
  | .alloc e => match zeroOf P e with
    | some z => some (.ptr id 0, .cells (putCells .leaf 0 z.cells) z.cells.length [] false)
    | none => none
  | .buildSlice t len ps => match aparts tm ps.toList with
    | some l => match abuildSlice P t len l with
      | some (cs, s) => some (.slice id 0 len len s true, .cells (putCells .leaf 0 cs) cs.length [] false)
      | none => none
    | none => none
  | _ => none
def rstep (P : Program) (call : Oracle) (nt : Nat) (ops : List Oper) (p : Plan) (r : RS) : Option RS :=
  match awanted r.tm ops p.o with
  | none => none
  | some false =>
    match aput r.tm nt p.o.dst .undef with
    | none => none
    | some tm => match p.kd with
      | .eff => let h := insertPend r.h r.s r.pend; some { r with tm, h, stages := r.h :: r.stages, s := Nat.succ r.s }
      | .fresh => some { r with tm, next := Nat.succ r.next }
      | _ => some { r with tm }
  | some true =>
    match p.kd with
    | .pure => match aop P r.h r.tm p.o with
      | some (.val v _) => match aput r.tm nt p.o.dst v with
        | some tm => some { r with tm }
        | none => none
      | _ => none
    | .read => match aop P r.h r.tm p.o with
      | some (.val v _) => match aput r.tm nt p.o.dst v with
        | some tm => some { r with tm, again := bif Nat.beq p.lo p.hi then r.again else ⟨p.o, r.tm, p.lo, p.hi, v⟩ :: r.again }
        | none => none
      | _ => none
    | .fresh => match afresh P r.tm r.next p.o with
      | some (v, o) => match aput r.tm nt p.o.dst v with
        | some tm => some { r with tm, next := Nat.succ r.next, pend := (p.hi, r.next, o) :: r.pend }
        | none => none
      | none => none
    | .eff =>
      let h := insertPend r.h r.s r.pend
      match aop P h r.tm p.o with
      | some (.val v h') => match aput r.tm nt p.o.dst v with
        | some tm => some { r with tm, h := h', stages := r.h :: r.stages, s := Nat.succ r.s }
        | none => none
      | some (.call c) => match call r.s c h with
        | some (v, h') => match aput r.tm nt p.o.dst v with
          | some tm => some { r with tm, h := h', stages := r.h :: r.stages, s := Nat.succ r.s }
          | none => none
        | none => none
      | _ => none
def rsteps (P : Program) (call : Oracle) (nt : Nat) (ops : List Oper) : List Plan → RS → Option RS
  | [], r => some r
  | p :: ps, r => match rstep P call nt ops p r with
    | some r' => rsteps P call nt ops ps r'
    | none => none
def checkAt (P : Program) (a : Again) (h : Hp) : Bool :=
  match aop P h a.tm a.o with
  | some (.val v _) => AV.same v a.v
  | _ => false
/-- the heaps from number k downwards -/
def checkStages (P : Program) (a : Again) : List Hp → Nat → Bool
  | [], _ => true
  | h :: hs, k => (bif Nat.ble a.lo k && Nat.ble k a.hi then checkAt P a h else true) && checkStages P a hs (k - 1)
def checkAll (P : Program) (hs : List Hp) (k : Nat) : List Again → Bool
  | [] => true
  | a :: as => checkStages P a hs k && checkAll P hs k as
def aregion (P : Program) (call : Oracle) (nt : Nat) (ops : Array Oper) (tm : T AV) (h : Hp) : Option (T AV × Hp) :=
  let pl := rplan ops
  bif pl.ok then
    match rsteps P call nt pl.ops pl.plans { tm, h := { h with nb := h.nb + pl.fresh }, stages := [], s := 0, pend := [], next := h.nb, again := [] } with
    | some r => bif checkAll P (r.h :: r.stages) r.s r.again then some (r.tm, insertPend r.h r.s r.pend) else none
    | none => none
  else none

/-! ## frames -/
def putArgs : T AV → Nat → List AV → T AV := putCells
def enterFrame (P : Program) (f : Nat) (args : List AV) (kind : CallKind) : Option AFrame :=
  match P.funcs[f]? with
  | some fn => match fn.body with
    | some c => some { fn := f, tm := putArgs .leaf 0 args, nt := max fn.ntmps args.length, todo := [.code c], defers := [], mode := .run, kind, roundOf := none }
    | none => none
  | none => none
def setParams : T AV → Nat → List Nat → List AV → Option (T AV)
  | tm, _, [], [] => some tm
  | tm, nt, p :: ps, a :: as => bif Nat.blt p nt then setParams (tm.put p a) nt ps as else none
  | _, _, _, _ => none
def roundFrame (h : Hp) (l : Nat) (args : List AV) : Option AFrame :=
  match h.look l with
  | some (.loop _ _ fn tm nt params assign body _) =>
    match setParams tm nt params args with
    | some tm' => some { fn, tm := tm', nt, todo := [.code assign, .beginRound, .code body], defers := [], mode := .run, kind := .normal, roundOf := some l }
    | none => none
  | _ => none
def inFrame (P : Program) (h : Hp) : AIn → Option AFrame
  | .enter f args => enterFrame P f args .normal
  | .round l args => roundFrame h l args

def aexitTo (id : Nat) : List AItem → Option (List AItem)
  | .inBlock id' :: k => bif Nat.beq id' id then some k else aexitTo id k
  | _ :: k => aexitTo id k
  | [] => none
def agotoIn (l : Nat) : List AItem → Option (List AItem)
  | .inScope body :: k => match findLabel body l with
    | some rest => some (.code rest :: .inScope body :: k)
    | none => agotoIn l k
  | _ :: k => agotoIn l k
  | [] => none
/-- a value comes to where it was waited for -/
def AFrame.finish (fr : AFrame) (v : AV) : Option AFrame :=
  match fr.todo with
  | .ops all i (o :: rest) :: k => match aput fr.tm fr.nt o.dst v with
    | some tm => some { fr with tm, todo := .ops all (Nat.succ i) rest :: k }
    | none => none
  | .inRF l :: k => some { fr with todo := .endRF l :: k }
  | _ => none
def AFrame.raise (fr : AFrame) (vs : List (AV × Bool)) : AFrame :=
  match fr.mode with
  | .pan chain => { fr with mode := .pan (vs ++ chain) }
  | _ => { fr with mode := .pan vs }
/-- at a return of a deferred call -/
def settleA (m : AMode) : AMode :=
  match m with
  | .pan ((_, true) :: _) => .ret
  | m => m
def aresult (P : Program) (h : Hp) (tm : T AV) : ResultVar → Option AV
  | .tmp t => tm.at t
  | .cell a t => match tm.at a with
    | some (.ptr b off) => aload P h t b off
    | _ => none
def aresults (P : Program) (h : Hp) (tm : T AV) : List ResultVar → Option (List AV)
  | [] => some []
  | r :: rs => match aresult P h tm r, aresults P h tm rs with
    | some v, some vs => some (v :: vs)
    | _, _ => none
def tupled : List AV → AV
  | [v] => v
  | vs => .tup vs

/-- the frame's value goes to the caller -/
def areturn (fr : AFrame) (cs : List AFrame) (v : AV) (h : Hp) : Option AS :=
  match cs with
  | [] => none
  | c :: cs => match fr.kind with
    | .normal => match c.finish v with
      | some c' => some ⟨c', cs, h⟩
      | none => none
    | .deferred => some ⟨{ c with mode := settleA c.mode }, cs, h⟩
    | _ => none
/-- a round's end -/
def aendRound (h : Hp) (l : Nat) (jump : Option Code) : Option Hp :=
  match h.look l with
  | some (.loop _ _ fn tm nt ps as bd df) => some (h.set l (.loop (match jump with | none => .ready | some _ => .done) jump fn tm nt ps as bd df))
  | _ => none
def aleave (fr : AFrame) (cs : List AFrame) (h : Hp) (jump : Option Code) : Option AS :=
  match fr.roundOf with
  | none => match jump with
    | none => some ⟨{ fr with mode := .ret }, cs, h⟩
    | some .ret => some ⟨{ fr with mode := .ret }, cs, h⟩
    | _ => none
  | some l => match aendRound h l jump with
    | some h' => areturn fr cs (.bool jump.isNone) h'
    | none => none
def toC (fr : AFrame) (todo : List AItem) (cs : List AFrame) (h : Hp) : Option AS := some ⟨{ fr with todo }, cs, h⟩
def pushIn (P : Program) (fr : AFrame) (cs : List AFrame) (h : Hp) (c : AIn) : Option AS :=
  match inFrame P h c with
  | some g => some ⟨g, fr :: cs, h⟩
  | none => none
/-- one step -/
def astep (P : Program) (call : Oracle) (s : AS) : Option AS :=
  let fr := s.fr
  let cs := s.cs
  let h := s.h
  match fr.mode with
  | .run => match fr.todo with
    | [] => aleave fr cs h none
    | .code .ret :: _ => aleave fr cs h (some .ret)
    | .code .skip :: k => toC fr k cs h
    | .code (.label _) :: k => toC fr k cs h
    | .inBlock _ :: k => toC fr k cs h
    | .inScope _ :: k => toC fr k cs h
    | .code (.seq a b) :: k => toC fr (.code a :: .code b :: k) cs h
    | .code (.cond c x y) :: k => match aeval fr.tm c with
      | some (.bool true) => toC fr (.code x :: k) cs h
      | some (.bool false) => toC fr (.code y :: k) cs h
      | _ => none
    | .code (.block id c) :: k => toC fr (.code c :: .inBlock id :: k) cs h
    | .code (.loop c) :: k => toC fr (.code c :: .inLoop c :: k) cs h
    | .inLoop c :: k => toC fr (.code c :: .inLoop c :: k) cs h
    | .code (.scope c) :: k => toC fr (.code c :: .inScope c :: k) cs h
    | .code (.exit id) :: k => match aexitTo id k with
      | some k' => toC fr k' cs h
      | none => aleave fr cs h (some (.exit id))
    | .code (.goto l) :: k => match agotoIn l k with
      | some k' => toC fr k' cs h
      | none => aleave fr cs h (some (.goto l))
    | .code (.region _ ops false) :: k => toC fr (.ops ops 0 ops.toList :: k) cs h
    | .code (.region _ ops true) :: k => match aregion P call fr.nt ops fr.tm h with
      | some (tm, h') => some ⟨{ fr with tm, todo := k }, cs, h'⟩
      | none => none
    | .ops _ _ [] :: k => toC fr k cs h
    | .ops all i (o :: rest) :: k =>
      match awanted fr.tm all.toList o with
      | none => none
      | some false => match aput fr.tm fr.nt o.dst .undef with
        | some tm => some ⟨{ fr with tm, todo := .ops all (Nat.succ i) rest :: k }, cs, h⟩
        | none => none
      | some true => match aop P h fr.tm o with
        | some (.val v h') => match aput fr.tm fr.nt o.dst v with
          | some tm => some ⟨{ fr with tm, todo := .ops all (Nat.succ i) rest :: k }, cs, h'⟩
          | none => none
        | some (.call c) => pushIn P fr cs h c
        | some (.defer d) => match fr.roundOf, aput fr.tm fr.nt o.dst .undef with
          | none, some tm => some ⟨{ fr with tm, todo := .ops all (Nat.succ i) rest :: k, defers := d :: fr.defers }, cs, h⟩
          | _, _ => none
        | some (.panic v) => some ⟨fr.raise [(v, false)], cs, h⟩
        | some .recover => match fr.roundOf, fr.kind, cs with
          | none, .deferred, c :: cs' => match c.mode with
            | .pan ((v, false) :: older) => match aput fr.tm fr.nt o.dst v with
              | some tm => some ⟨{ fr with tm, todo := .ops all (Nat.succ i) rest :: k }, { c with mode := .pan ((v, true) :: older) } :: cs', h⟩
              | none => none
            | _ => match aput fr.tm fr.nt o.dst .nili with
              | some tm => some ⟨{ fr with tm, todo := .ops all (Nat.succ i) rest :: k }, cs, h⟩
              | none => none
          | _, _, _ => none
        | none => none
    | .code (.rangeFunc f ps assign body) :: k =>
      match aeval fr.tm f with
      | none => none
      | some fv =>
        match fr.roundOf with
        | none =>
          let h1 := h.new (.defd false)
          let l := h1.nb
          let h2 := h1.new (.loop .ready none fr.fn fr.tm fr.nt ps.toList assign body h.nb)
          match acallV P fv [.yield l] with
          | some (.call c) => pushIn P { fr with todo := .inRF l :: k, defers := .col h.nb :: fr.defers } cs h2 c
          | _ => none
        | some o => match h.look o with
          | some (.loop _ _ _ _ _ _ _ _ df) =>
            let l := h.nb
            let h2 := h.new (.loop .ready none fr.fn fr.tm fr.nt ps.toList assign body df)
            match acallV P fv [.yield l] with
            | some (.call c) => pushIn P { fr with todo := .inRF l :: k } cs h2 c
            | _ => none
          | _ => none
    | .inRF _ :: _ => none
    | .beginRound :: k => match fr.roundOf with
      | none => none
      | some l => match h.look l with
        | some (.loop .ready pe fn tm nt ps as bd df) => some ⟨{ fr with todo := k }, cs, h.set l (.loop .busy pe fn tm nt ps as bd df)⟩
        | _ => none
    | .endRF l :: k => match h.look l with
      | some (.loop .busy _ _ _ _ _ _ _ _) => none
      | some (.loop _ pe fn tm nt ps as bd df) =>
        some ⟨{ fr with todo := (match pe with | some c => [.code c] | none => []) ++ k }, cs, h.set l (.loop .exhausted pe fn tm nt ps as bd df)⟩
      | _ => none
    | .code (.refuse _) :: _ => none
  | .ret => match fr.defers with
    | .col b :: ds => match h.look b with
      | some (.defd false) => some ⟨{ fr with defers := ds }, cs, h.set b (.defd true)⟩
      | _ => none
    | .fn f args :: ds => bif callable P f then (match enterFrame P f args .deferred with
      | some g => some ⟨g, { fr with defers := ds } :: cs, h⟩
      | none => none) else none
    | [] => match P.funcs[fr.fn]? with
      | none => none
      | some fn => match aresults P h fr.tm fn.results.toList with
        | some vs => areturn fr cs (tupled vs) h
        | none => none
  | .pan chain => match fr.defers with
    | .col b :: ds => match h.look b with
      | some (.defd false) => some ⟨{ fr with defers := ds }, cs, h.set b (.defd true)⟩
      | _ => none
    | .fn f args :: ds => bif callable P f then (match enterFrame P f args .deferred with
      | some g => some ⟨g, { fr with defers := ds } :: cs, h⟩
      | none => none) else none
    | [] => match P.funcs[fr.fn]?, cs with
      | some _, c :: cs => some ⟨c.raise chain, cs, h⟩
      | _, _ => none

/-- the value of the last frame, if it is about to hand it back -/
def final (P : Program) (s : AS) : Option (AV × Hp) :=
  match s.cs, s.fr.kind with
  | [], .normal => match s.fr.mode, s.fr.roundOf, s.fr.todo with
    | .ret, none, _ => match s.fr.defers, P.funcs[s.fr.fn]? with
      | [], some fn => match aresults P s.h s.fr.tm fn.results.toList with
        | some vs => some (tupled vs, s.h)
        | none => none
      | _, _ => none
    | .run, some l, [] => match aendRound s.h l none with
      | some h' => some (.bool true, h')
      | none => none
    | .run, some l, .code .ret :: _ => match aendRound s.h l (some .ret) with
      | some h' => some (.bool false, h')
      | none => none
    | .run, some l, .code (.exit id) :: k => match aexitTo id k with
      | some _ => none
      | none => match aendRound s.h l (some (.exit id)) with
        | some h' => some (.bool false, h')
        | none => none
    | .run, some l, .code (.goto t) :: k => match agotoIn t k with
      | some _ => none
      | none => match aendRound s.h l (some (.goto t)) with
        | some h' => some (.bool false, h')
        | none => none
    | _, _, _ => none
  | _, _ => none
def arun (P : Program) (call : Oracle) : Nat → AS → Option (AV × Hp)
  | 0, _ => none
  | n+1, s => match final P s with
    | some r => some r
    | none => match astep P call s with
      | some s' => arun P call n s'
      | none => none
def oracle (P : Program) (n : Nat) : Nat → Oracle
  | 0 => fun _ _ _ => none
  | d+1 => fun _ c h => match inFrame P h c with
    | some g => arun P (oracle P n d) n ⟨g, [], h⟩
    | none => none
end
end Go.Hb

namespace Go.Hb
noncomputable section
/-- one step -/
def fstep (P : Program) (call : Oracle) (s : AS) : Option AS :=
  match s with
  | ⟨⟨fn, tm, nt, todo, defers, mode, kind, roundOf⟩, cs, h⟩ =>
  match mode with
  | .run => match todo with
    | [] => aleave ⟨fn, tm, nt, todo, defers, mode, kind, roundOf⟩ cs h none
    | .code .ret :: _ => aleave ⟨fn, tm, nt, todo, defers, mode, kind, roundOf⟩ cs h (some .ret)
    | .code .skip :: k => some ⟨⟨fn, tm, nt, k, defers, mode, kind, roundOf⟩, cs, h⟩
    | .code (.label _) :: k => some ⟨⟨fn, tm, nt, k, defers, mode, kind, roundOf⟩, cs, h⟩
    | .inBlock _ :: k => some ⟨⟨fn, tm, nt, k, defers, mode, kind, roundOf⟩, cs, h⟩
    | .inScope _ :: k => some ⟨⟨fn, tm, nt, k, defers, mode, kind, roundOf⟩, cs, h⟩
    | .code (.seq a b) :: k => some ⟨⟨fn, tm, nt, (.code a :: .code b :: k), defers, mode, kind, roundOf⟩, cs, h⟩
    | .code (.cond c x y) :: k => match aeval tm c with
      | some (.bool true) => some ⟨⟨fn, tm, nt, (.code x :: k), defers, mode, kind, roundOf⟩, cs, h⟩
      | some (.bool false) => some ⟨⟨fn, tm, nt, (.code y :: k), defers, mode, kind, roundOf⟩, cs, h⟩
      | _ => none
    | .code (.block id c) :: k => some ⟨⟨fn, tm, nt, (.code c :: .inBlock id :: k), defers, mode, kind, roundOf⟩, cs, h⟩
    | .code (.loop c) :: k => some ⟨⟨fn, tm, nt, (.code c :: .inLoop c :: k), defers, mode, kind, roundOf⟩, cs, h⟩
    | .inLoop c :: k => some ⟨⟨fn, tm, nt, (.code c :: .inLoop c :: k), defers, mode, kind, roundOf⟩, cs, h⟩
    | .code (.scope c) :: k => some ⟨⟨fn, tm, nt, (.code c :: .inScope c :: k), defers, mode, kind, roundOf⟩, cs, h⟩
    | .code (.exit id) :: k => match aexitTo id k with
      | some k' => some ⟨⟨fn, tm, nt, k', defers, mode, kind, roundOf⟩, cs, h⟩
      | none => aleave ⟨fn, tm, nt, todo, defers, mode, kind, roundOf⟩ cs h (some (.exit id))
    | .code (.goto l) :: k => match agotoIn l k with
      | some k' => some ⟨⟨fn, tm, nt, k', defers, mode, kind, roundOf⟩, cs, h⟩
      | none => aleave ⟨fn, tm, nt, todo, defers, mode, kind, roundOf⟩ cs h (some (.goto l))
    | .code (.region _ ops false) :: k => some ⟨⟨fn, tm, nt, (.ops ops 0 ops.toList :: k), defers, mode, kind, roundOf⟩, cs, h⟩
    | .code (.region _ ops true) :: k => match aregion P call nt ops tm h with
      | some (tm, h') => some ⟨⟨fn, tm, nt, (k), defers, mode, kind, roundOf⟩, cs, h'⟩
      | none => none
    | .ops _ _ [] :: k => some ⟨⟨fn, tm, nt, k, defers, mode, kind, roundOf⟩, cs, h⟩
    | .ops all i (o :: rest) :: k =>
      match awanted tm all.toList o with
      | none => none
      | some false => match aput tm nt o.dst .undef with
        | some tm => some ⟨⟨fn, tm, nt, (.ops all (Nat.succ i) rest :: k), defers, mode, kind, roundOf⟩, cs, h⟩
        | none => none
      | some true => match aop P h tm o with
        | some (.val v h') => match aput tm nt o.dst v with
          | some tm => some ⟨⟨fn, tm, nt, (.ops all (Nat.succ i) rest :: k), defers, mode, kind, roundOf⟩, cs, h'⟩
          | none => none
        | some (.call c) => pushIn P ⟨fn, tm, nt, todo, defers, mode, kind, roundOf⟩ cs h c
        | some (.defer d) => match roundOf, aput tm nt o.dst .undef with
          | none, some tm => some ⟨⟨fn, tm, nt, (.ops all (Nat.succ i) rest :: k), (d :: defers), mode, kind, roundOf⟩, cs, h⟩
          | _, _ => none
        | some (.panic v) => some ⟨(⟨fn, tm, nt, todo, defers, mode, kind, roundOf⟩ : AFrame).raise [(v, false)], cs, h⟩
        | some .recover => match roundOf, kind, cs with
          | none, .deferred, c :: cs' => match c.mode with
            | .pan ((v, false) :: older) => match aput tm nt o.dst v with
              | some tm => some ⟨⟨fn, tm, nt, (.ops all (Nat.succ i) rest :: k), defers, mode, kind, roundOf⟩, { c with mode := .pan ((v, true) :: older) } :: cs', h⟩
              | none => none
            | _ => match aput tm nt o.dst .nili with
              | some tm => some ⟨⟨fn, tm, nt, (.ops all (Nat.succ i) rest :: k), defers, mode, kind, roundOf⟩, cs, h⟩
              | none => none
          | _, _, _ => none
        | none => none
    | .code (.rangeFunc f ps assign body) :: k =>
      match aeval tm f with
      | none => none
      | some fv =>
        match roundOf with
        | none =>
          let h1 := h.new (.defd false)
          let l := h1.nb
          let h2 := h1.new (.loop .ready none fn tm nt ps.toList assign body h.nb)
          match acallV P fv [.yield l] with
          | some (.call c) => pushIn P ⟨fn, tm, nt, (.inRF l :: k), (.col h.nb :: defers), mode, kind, roundOf⟩ cs h2 c
          | _ => none
        | some o => match h.look o with
          | some (.loop _ _ _ _ _ _ _ _ df) =>
            let l := h.nb
            let h2 := h.new (.loop .ready none fn tm nt ps.toList assign body df)
            match acallV P fv [.yield l] with
            | some (.call c) => pushIn P ⟨fn, tm, nt, (.inRF l :: k), defers, mode, kind, roundOf⟩ cs h2 c
            | _ => none
          | _ => none
    | .inRF _ :: _ => none
    | .beginRound :: k => match roundOf with
      | none => none
      | some l => match h.look l with
        | some (.loop .ready pe fn' tm' nt' ps as bd df) => some ⟨⟨fn, tm, nt, (k), defers, mode, kind, roundOf⟩, cs, h.set l (.loop .busy pe fn' tm' nt' ps as bd df)⟩
        | _ => none
    | .endRF l :: k => match h.look l with
      | some (.loop .busy _ _ _ _ _ _ _ _) => none
      | some (.loop _ pe fn' tm' nt' ps as bd df) =>
        some ⟨⟨fn, tm, nt, ((match pe with | some c => [.code c] | none => []) ++ k), defers, mode, kind, roundOf⟩, cs, h.set l (.loop .exhausted pe fn' tm' nt' ps as bd df)⟩
      | _ => none
    | .code (.refuse _) :: _ => none
  | .ret => match defers with
    | .col b :: ds => match h.look b with
      | some (.defd false) => some ⟨⟨fn, tm, nt, todo, (ds), mode, kind, roundOf⟩, cs, h.set b (.defd true)⟩
      | _ => none
    | .fn f args :: ds => bif callable P f then (match enterFrame P f args .deferred with
      | some g => some ⟨g, ⟨fn, tm, nt, todo, (ds), mode, kind, roundOf⟩ :: cs, h⟩
      | none => none) else none
    | [] => match P.funcs[fn]? with
      | none => none
      | some fd => match aresults P h tm fd.results.toList with
        | some vs => areturn ⟨fn, tm, nt, todo, defers, mode, kind, roundOf⟩ cs (tupled vs) h
        | none => none
  | .pan chain => match defers with
    | .col b :: ds => match h.look b with
      | some (.defd false) => some ⟨⟨fn, tm, nt, todo, (ds), mode, kind, roundOf⟩, cs, h.set b (.defd true)⟩
      | _ => none
    | .fn f args :: ds => bif callable P f then (match enterFrame P f args .deferred with
      | some g => some ⟨g, ⟨fn, tm, nt, todo, (ds), mode, kind, roundOf⟩ :: cs, h⟩
      | none => none) else none
    | [] => match P.funcs[fn]?, cs with
      | some _, c :: cs => some ⟨c.raise chain, cs, h⟩
      | _, _ => none


theorem fstep_eq (P : Program) (call : Oracle) (s : AS) : fstep P call s = astep P call s := by
  obtain ⟨⟨fn, tm, nt, todo, defers, mode, kind, roundOf⟩, cs, h⟩ := s
  rfl
/-- of the heap, only these -/
def Hp.only (h : Hp) : List Nat → T AObj → T AObj
  | [], t => t
  | b :: bs, t => match h.look b with
    | some o => Hp.only h bs (t.put b o)
    | none => Hp.only h bs t
def AS.only (s : AS) (bs : List Nat) : AS := { s with h := { s.h with t := Hp.only s.h bs .leaf } }
/-- the same, by the quicker step -/
def fstepsN (P : Program) (call : Oracle) : Nat → AS → Option AS
  | 0, s => some s
  | n + 1, s => match fstep P call s with
    | some s' => fstepsN P call n s'
    | none => none
def fpiece (P : Program) (call : Oracle) (n : Nat) (bs : List Nat) (s : AS) : Option AS :=
  match fstepsN P call n s with
  | some s' => some (s'.only bs)
  | none => none
end
end Go.Hb

