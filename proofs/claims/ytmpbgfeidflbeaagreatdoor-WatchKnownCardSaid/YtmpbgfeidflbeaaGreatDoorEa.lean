/- the interpreter E: values, heap, operations, code, calls -/
import GoSem.Step
/-! E: a deterministic interpreter of the model's code over abstract rows; part A: values, trees, the heap. -/
namespace Go.E

inductive AV where
  | bool (b : Bool)
  | int (k : IntKind) (n : Int)
  | str (s : List UInt8)
  | ptr (r off : Nat)
  | nilp
  | slc (r off len cap : Nat)        -- the capacity is known
  | opn (r off len sz : Nat)         -- it is not; the size of an element in cells
  | nils
  | map (r : Nat)
  | nilm
  | fn (f : Fn) (first cap : List AV)
  | yld (l : Nat)
  | nilf
  | iface (t : TypeId) (v : AV)
  | nili
  | agg (cs : List AV)
  | tup (vs : List AV)
  | raw (v : Value)                  -- another constant
instance : Inhabited AV := ⟨.bool false⟩

def undef : AV := .tup []

/-! ### trees -/
inductive T (α : Type) where
  | nil
  | node (v : α) (l r : T α)

def bits : Nat → Nat → List Bool
  | 0, _ => []
  | f + 1, n => bif Nat.ble n 1 then [] else Nat.beq (n % 2) 1 :: bits f (n / 2)
def path (i : Nat) : List Bool := bits (i + 1) (i + 1)

structure Getter (α : Type) where run : T α → α
structure Setter (α : Type) where run : T α → α → T α
def getter {α : Type} (d : α) : List Bool → Getter α
  | [] => ⟨fun t => match t with | .nil => d | .node v _ _ => v⟩
  | true :: p => ⟨fun t => match t with | .nil => d | .node _ _ r => (getter d p).run r⟩
  | false :: p => ⟨fun t => match t with | .nil => d | .node _ l _ => (getter d p).run l⟩
def setter {α : Type} (d : α) : List Bool → Setter α
  | [] => ⟨fun t x => match t with | .nil => .node x .nil .nil | .node _ l r => .node x l r⟩
  | true :: p => ⟨fun t x => match t with | .nil => .node d .nil ((setter d p).run .nil x) | .node v l r => .node v l ((setter d p).run r x)⟩
  | false :: p => ⟨fun t x => match t with | .nil => .node d ((setter d p).run .nil x) .nil | .node v l r => .node v ((setter d p).run l x) r⟩
def T.get {α : Type} (d : α) (t : T α) (i : Nat) : α := (getter d (path i)).run t
def T.set {α : Type} (d : α) (t : T α) (i : Nat) (x : α) : T α := (setter d (path i)).run t x

/-! ### rows and the heap -/
structure ELoop where
  state : LoopState
  pending : Option Code
  fn : FuncId
  tm : T AV
  params : List Tmp
  assign : Code
  body : Code
  defers : Nat

inductive Row where
  | dead
  | cells (ro : Bool) (cs : List AV)
  | map (kt : TypeId) (es : List (AV × AV))
  | iter (s : List UInt8) (pos : Nat)
  | loop (l : ELoop)
  | dfr (taken : Bool)
instance : Inhabited Row := ⟨.dead⟩

structure Heap where
  size : Nat
  tr : T Row
  mark : Nat                      -- writes to rows below it are told
  log : List (Nat × Nat × Nat)    -- what was written: a row, from which cell on, how many
  hide : List (Nat × Nat)         -- rows that may not be looked at now

def hidden (r : Nat) : List (Nat × Nat) → Bool
  | [] => false
  | (a, b) :: l => (Nat.ble a r && Nat.blt r b) || hidden r l
def Heap.get (h : Heap) (r : Nat) : Row :=
  match h.hide with
  | [] => T.get .dead h.tr r
  | l => bif hidden r l then .dead else T.get .dead h.tr r
def whole : Nat := 1000000000000
def Heap.put (h : Heap) (r off n : Nat) (x : Row) : Heap :=
  match h with
  | ⟨size, tr, mark, log, hide⟩ => ⟨size, T.set .dead tr r x, mark, bif Nat.blt r mark then (r, off, n) :: log else log, hide⟩
/-- the same number, written out -/
def force {α : Type} (n : Nat) (k : Nat → α) : α :=
  match n with
  | 0 => k 0
  | m + 1 => k (m + 1)
def Heap.new (h : Heap) (x : Row) : Heap :=
  match h with
  | ⟨size, tr, mark, log, hide⟩ => force size fun n => ⟨n + 1, T.set .dead tr n x, mark, log, hide⟩
def Heap.next {α : Type} (h : Heap) (k : Nat → α) : α := force h.size k

/-! ### numbers -/
def ltF : Int → Int → Bool
  | .ofNat a, .ofNat b => Nat.blt a b
  | .ofNat _, .negSucc _ => false
  | .negSucc _, .ofNat _ => true
  | .negSucc a, .negSucc b => Nat.blt b a
def leF (a b : Int) : Bool := !ltF b a
def eqF : Int → Int → Bool
  | .ofNat a, .ofNat b => Nat.beq a b
  | .negSucc a, .negSucc b => Nat.beq a b
  | _, _ => false
def top (k : IntKind) : Nat :=
  match k with
  | .i8 => 127 | .i16 => 32767 | .i32 => 2147483647 | .i64 => 9223372036854775807
  | .u8 => 255 | .u16 => 65535 | .u32 => 4294967295 | .u64 => 18446744073709551615
def wrapF (k : IntKind) (n : Int) : Int :=
  match n with
  | .ofNat m => bif Nat.ble m (top k) then .ofNat m else k.wrap n
  | .negSucc m => bif k.signed && Nat.ble m (top k) then .negSucc m else k.wrap n
/-- an index below a length -/
def idxF (i : Int) (len : Nat) : Option Nat :=
  match i with
  | .ofNat m => bif Nat.blt m len then some m else none
  | .negSucc _ => none
/-- a bound, at most a length -/
def bndF (i : Int) (len : Nat) : Option Nat :=
  match i with
  | .ofNat m => bif Nat.ble m len then some m else none
  | .negSucc _ => none
def natF (i : Int) : Option Nat :=
  match i with
  | .ofNat m => some m
  | .negSucc _ => none

/-! ### lists of cells -/
def takeN {α : Type} : Nat → List α → Option (List α)
  | 0, _ => some []
  | _ + 1, [] => none
  | n + 1, a :: l => match takeN n l with | some r => some (a :: r) | none => none
def sub {α : Type} : Nat → Nat → List α → Option (List α)
  | 0, n, l => takeN n l
  | _ + 1, _, [] => none
  | o + 1, n, _ :: l => sub o n l
def nth {α : Type} : Nat → List α → Option α
  | _, [] => none
  | 0, a :: _ => some a
  | o + 1, _ :: l => nth o l
def over {α : Type} : List α → List α → Option (List α)
  | [], l => some l
  | _ :: _, [] => none
  | x :: xs, _ :: l => match over xs l with | some r => some (x :: r) | none => none
/-- a list with other cells from a place on -/
def splice {α : Type} : Nat → List α → List α → Option (List α)
  | 0, new, l => over new l
  | _ + 1, _, [] => none
  | o + 1, new, a :: l => match splice o new l with | some r => some (a :: r) | none => none
def repl {α : Type} (zs : List α) : Nat → List α
  | 0 => []
  | n + 1 => zs ++ repl zs n
/-- the cells of a value -/
def cellsOf : AV → Option (List AV)
  | .agg cs => some cs
  | .tup _ => none
  | .raw _ => none
  | v => some [v]
def len {α : Type} : List α → Nat → Nat
  | [], n => n
  | _ :: l, n => len l (n + 1)

def allM {α β : Type} (f : α → Option β) : List α → Option (List β)
  | [] => some []
  | a :: l => match f a with
    | none => none
    | some b => match allM f l with | some r => some (b :: r) | none => none
end Go.E
/-! E, part B: operations, code, calls. -/
namespace Go.E

structure ADef where
  fn : Option AV      -- none: the mark of a loop over a function
  blk : Nat
  args : List AV

structure St where
  tm : T AV
  hp : Heap
  df : List ADef
  pn : Option (AV × Bool)   -- what can be recovered, and whether it was

inductive Ex where
  | normal | exit (id : Nat) | ret | panic (v : AV)
inductive Out where
  | ret (v : AV) | pan (v : AV)
inductive OR where
  | val (v : AV) (h : Heap)
  | dfr (d : ADef)
  | pan (v : AV) (h : Heap)
  | recov
  | bad

abbrev Fun := List AV → Heap → Option (Out × Heap)

structure Cfg where
  info : TypeId → Option TypeInfo
  fn : FuncId → Option Func
  ext : FuncId → Option Fun
  eqOk : TypeId → Bool        -- the structs and arrays that are compared
  keyT : TypeId → Bool        -- those that are keys
  fuel : Nat

structure Env where
  C : FuncId → Fun
  Y : Nat → Fun
  rnd : Option Nat
  fid : FuncId

def ofVal : Value → AV
  | .bool b => .bool b
  | .int k n => .int k n
  | .string s => .str s.data.toList
  | .pointer none => .nilp
  | .slice none 0 0 => .nils
  | .map none => .nilm
  | .nilFunc => .nilf
  | .nilIface => .nili
  | v => .raw v
/-- constants that E knows -/
def plainV : Value → Bool
  | .bool _ | .int _ _ | .string _ | .pointer none | .slice none 0 0 | .map none | .nilFunc | .nilIface => true
  | _ => false
def zeroAV : Option Value → Option AV
  | some (.agg cs) => bif cs.toList.all plainV then some (.agg (cs.toList.map ofVal)) else none
  | some v => bif plainV v then some (ofVal v) else none
  | none => none

structure SV where get : T AV → AV
def compV : Operand → SV
  | .tmp t => ⟨fun tm => T.get undef tm t⟩
  | .const v => ⟨fun _ => ofVal v⟩
  | .global g => ⟨fun _ => .ptr g 0⟩
  | .func f => ⟨fun _ => .fn (.func f) [] []⟩
def ev (tm : T AV) (x : Operand) : AV := (compV x).get tm
def okOp : Operand → Bool
  | .const v => plainV v
  | _ => true

section
variable (c : Cfg)

def und (t : TypeId) : Option TypeDesc :=
  match c.info t with
  | some i => match i.desc with
    | .named _ u => match c.info u with | some j => some j.desc | none => none
    | d => some d
  | none => none
def isAggD : TypeDesc → Bool
  | .struct _ | .array _ _ => true
  | _ => false
/-- whether a type is an aggregate, and its size in cells -/
def tyE (t : TypeId) : Option (Bool × Nat) :=
  match und c t, c.info t with
  | some d, some i => some (isAggD d, i.size)
  | _, _ => none
def sizeE (t : TypeId) : Option Nat := (c.info t).map (·.size)
def bytesE (t : TypeId) : Option Nat := (c.info t).map (·.bytes)
def zeroE (t : TypeId) : Option AV := (c.info t).bind fun i => zeroAV i.zero
/-- the elements of a slice's type: the type, its size and its bytes -/
def elemE (t : TypeId) : Option (TypeId × Nat × Nat) :=
  match und c t with
  | some (.slice e) => match c.info e with | some i => some (e, i.size, i.bytes) | none => none
  | _ => none
def fieldE (t : TypeId) (f : Nat) : Option (Nat × Bool × Nat) :=
  match und c t with
  | some (.struct fs) => match fs[f]? with
    | some x => match tyE c x.type with | some (a, s) => some (x.offset, a, s) | none => none
    | none => none
  | _ => none

def part (t : Bool × Nat) (cs : List AV) (off : Nat) : Option AV :=
  match t with
  | (true, n) => (sub off n cs).map .agg
  | (false, _) => nth off cs
def loadE (t : TypeId) (h : Heap) (r off : Nat) : Option AV :=
  match tyE c t, h.get r with
  | some t, .cells _ cs => part t cs off
  | _, _ => none
def storeE (t : TypeId) (h : Heap) (r off : Nat) (v : AV) : Option Heap :=
  match sizeE c t, h.get r, cellsOf v with
  | some n, .cells false cs, some new =>
    bif Nat.beq (len new 0) n then
      match splice off new cs with
      | some cs' => some (h.put r off n (.cells false cs'))
      | none => none
    else none
  | _, _, _ => none

def fillE (place : Nat → Option (Nat × Nat)) : List (Nat × AV) → List AV → Option (List AV)
  | [], cs => some cs
  | (i, v) :: rest, cs =>
    match place i, cellsOf v with
    | some (off, size), some new =>
      bif Nat.beq (len new 0) size then
        match splice off new cs with
        | some cs' => fillE place rest cs'
        | none => none
      else none
    | _, _ => none
def zeroCells (e : TypeId) : Option (List AV) :=
  match c.info e with
  | some i => match zeroAV i.zero with
    | some z => match cellsOf z with
      | some zs => bif Nat.beq (len zs 0) i.size then some zs else none
      | none => none
    | none => none
  | none => none
def zerosE (e : TypeId) (n : Nat) : Option (List AV) :=
  match n with
  | 0 => some []
  | n => match zeroCells c e with | some zs => some (repl zs n) | none => none
def placeS (t : TypeId) (i : Nat) : Option (Nat × Nat) :=
  match fieldE c t i with | some (o, _, s) => some (o, s) | none => none
def placeA (s : Nat) (i : Nat) : Option (Nat × Nat) := some (i * s, s)
def buildE (t : TypeId) (parts : List (Nat × AV)) : Option AV :=
  match und c t, zeroCells c t with
  | some (.struct _), some z => (fillE (placeS c t) parts z).map .agg
  | some (.array _ e), some z => match sizeE c e with
    | some s => (fillE (placeA s) parts z).map .agg
    | none => none
  | _, _ => none

def intOp (op : BinOp) (k : IntKind) (a b : Int) : Option AV :=
  match op with
  | .add => some (.int k (wrapF k (a + b)))
  | .sub => some (.int k (wrapF k (a - b)))
  | .mul => some (.int k (wrapF k (a * b)))
  | .quo => bif eqF b 0 then none else some (.int k (wrapF k (a.tdiv b)))
  | .rem => bif eqF b 0 then none else some (.int k (a.tmod b))
  | .eql => some (.bool (eqF a b))
  | .neq => some (.bool (!eqF a b))
  | .lss => some (.bool (ltF a b))
  | .leq => some (.bool (leF a b))
  | .gtr => some (.bool (ltF b a))
  | .geq => some (.bool (leF b a))
  | .and => some (.int k (k.wrap (BitVec.ofInt k.bits a &&& BitVec.ofInt k.bits b).toNat))
  | .or => some (.int k (k.wrap (BitVec.ofInt k.bits a ||| BitVec.ofInt k.bits b).toNat))
  | .xor => some (.int k (k.wrap (BitVec.ofInt k.bits a ^^^ BitVec.ofInt k.bits b).toNat))
  | .andNot => some (.int k (k.wrap (BitVec.ofInt k.bits a &&& ~~~ (BitVec.ofInt k.bits b)).toNat))
  | .shl => match natF b with | some n => some (.int k (k.wrap (a * 2 ^ (min n k.bits)))) | none => none
  | .shr => match natF b with | some n => some (.int k (a.fdiv (2 ^ (min n k.bits)))) | none => none
def isShift : BinOp → Bool
  | .shl | .shr => true
  | _ => false

def lim : Nat := 68719476736

def strEq : List UInt8 → List UInt8 → Bool
  | [], [] => true
  | a :: x, b :: y => Nat.beq a.toNat b.toNat && strEq x y
  | _, _ => false
def strLt : List UInt8 → List UInt8 → Bool
  | _, [] => false
  | [], _ :: _ => true
  | a :: x, b :: y => Nat.blt a.toNat b.toNat || (Nat.beq a.toNat b.toNat && strLt x y)
def strOp (op : BinOp) (a b : List UInt8) : Option AV :=
  match op with
  | .add => bif Nat.ble (len a (len b 0)) lim then some (.str (a ++ b)) else none
  | .eql => some (.bool (strEq a b))
  | .neq => some (.bool (!strEq a b))
  | .lss => some (.bool (strLt a b))
  | .gtr => some (.bool (strLt b a))
  | .leq => some (.bool (!strLt b a))
  | .geq => some (.bool (!strLt a b))
  | _ => none

def kindEq (a b : IntKind) : Bool := decide (a = b)
def scalarEq : AV → AV → Option Bool
  | .bool a, .bool b => some (a == b)
  | .int k a, .int k' b => bif kindEq k k' then some (eqF a b) else none
  | .str a, .str b => some (strEq a b)
  | _, _ => none
def cellsEq : List AV → List AV → Option Bool
  | [], [] => some true
  | a :: x, b :: y =>
    match scalarEq a b, cellsEq x y with
    | some p, some q => some (p && q)
    | _, _ => none
  | _, _ => none
/-- whether a value of a type is made of scalars alone, one cell a part -/
def one (t : TypeId) : Bool := match c.info t with | some i => Nat.beq i.size 1 | none => false
def scalarT (t : TypeId) (v : AV) : Bool :=
  one c t && match und c t, v with
  | some (.int k), .int k' n => kindEq k k' && eqF (wrapF k n) n
  | some .string, .str s => Nat.ble (len s 0) lim
  | some .bool, .bool _ => true
  | _, _ => false
def fieldsT : List Field → Nat → List AV → Bool
  | [], _, [] => true
  | f :: fs, i, v :: vs => Nat.beq f.offset i && !(f.name == "_") && scalarT c f.type v && fieldsT fs (i + 1) vs
  | _, _, _ => false
def sizeIs (t : TypeId) (n : Nat) : Bool := match c.info t with | some i => Nat.beq i.size n | none => false
def flatT (t : TypeId) (cs : List AV) : Bool :=
  sizeIs c t (len cs 0) && match und c t with
  | some (.struct fs) => fieldsT c fs.toList 0 cs
  | some (.array n e) => Nat.beq n (len cs 0) && cs.all (scalarT c e)
  | _ => false
/-- what '==' says of two values of a type that are no numbers and no strings; k: an operand is a constant -/
def eqE (t : TypeId) (k : Bool) (x y : AV) : Option Bool :=
  match und c t with
  | some .bool => match x, y with
    | .bool a, .bool b => some (a == b)
    | _, _ => none
  | some (.pointer _) => match x, y with
    | .nilp, .nilp => some true
    | .nilp, .ptr _ _ => some false
    | .ptr _ _, .nilp => some false
    | _, _ => none
  | some (.slice _) => match x, y with
    | .nils, .nils => some true
    | .nils, .slc .. => some false
    | .slc .., .nils => some false
    | .nils, .opn .. => some false
    | .opn .., .nils => some false
    | _, _ => none
  | some (.map _ _) => match x, y with
    | .nilm, .nilm => some true
    | .nilm, .map _ => some false
    | .map _, .nilm => some false
    | _, _ => none
  | some (.func ..) => match x, y with
    | .nilf, .nilf => some true
    | .nilf, .fn .. => some false
    | .fn .., .nilf => some false
    | _, _ => none
  | some (.interface _) => match x, y with
    | .nili, .nili => bif k then some true else none
    | .nili, .iface .. => some false
    | .iface .., .nili => some false
    | _, _ => none
  | some _ => match x, y with
    | .agg a, .agg b => bif c.eqOk t && flatT c t a && flatT c t b then cellsEq a b else none
    | _, _ => none
  | none => none
def isC : Operand → Bool
  | .const _ => true
  | _ => false
def eqOp (op : BinOp) (q : Option Bool) : Option AV :=
  match q, op with
  | some b, .eql => some (.bool b)
  | some b, .neq => some (.bool (!b))
  | _, _ => none
def binE (op : BinOp) (t : TypeId) (k : Bool) (x y : AV) : Option AV :=
  match x, y with
  | .int j a, .int j' b => bif isShift op || kindEq j j' then intOp op j a b else none
  | .str a, .str b => strOp op a b
  | x, y => eqOp op (eqE c t k x y)
def unE (op : UnOp) (x : AV) : Option AV :=
  match op, x with
  | .neg, .int k n => some (.int k (wrapF k (0 - n)))
  | .xor, .int k n => some (.int k (k.wrap (BitVec.ofInt k.bits (if k.signed then -1 else k.max) ^^^ BitVec.ofInt k.bits n).toNat))
  | .not, .bool b => some (.bool (!b))
  | _, _ => none

def arrE (t : TypeId) : Option (Nat × Bool × Nat) :=
  match und c t with
  | some (.array n e) => match tyE c e with | some (a, s) => some (n, a, s) | none => none
  | _ => none
def indexAddrE (t : TypeId) (x i : AV) : Option AV :=
  match x, i with
  | .slc r off n _, .int _ i => match elemE c t, idxF i n with
    | some (_, s, _), some j => some (.ptr r (off + j * s))
    | _, _ => none
  | .opn r off n z, .int _ i => match elemE c t, idxF i n with
    | some (_, s, _), some j => bif Nat.beq s z then some (.ptr r (off + j * s)) else none
    | _, _ => none
  | .ptr r off, .int _ i => match arrE c t with
    | some (n, _, s) => match idxF i n with
      | some j => some (.ptr r (off + j * s))
      | none => none
    | none => none
  | _, _ => none
def isStr (t : TypeId) : Bool := match und c t with | some .string => true | _ => false
def indexE (t : TypeId) (x i : AV) : Option AV :=
  match x, i with
  | .agg cs, .int _ i => match arrE c t with
    | some (n, a, s) => match idxF i n with
      | some j => part (a, s) cs (j * s)
      | none => none
    | none => none
  | .str b, .int _ i => bif isStr c t then
      match natF i with
      | some j => match nth j b with | some x => some (.int .u8 x.toNat) | none => none
      | none => none
    else none
  | _, _ => none

def bnd (o : Option AV) (d m : Nat) : Option Nat :=
  match o with
  | none => some d
  | some (.int _ i) => bndF i m
  | _ => none
def sliceE (t : TypeId) (x : AV) (lo hi mx : Option AV) : Option AV :=
  match x with
  | .str s => bif isStr c t && mx.isNone then
      let n := len s 0
      match bnd hi n n with
      | some h => match bnd lo 0 h with
        | some l => (sub l (h - l) s).map .str
        | none => none
      | none => none
    else none
  | .slc r off n cap => match elemE c t with
    | some (_, s, _) => match bnd mx cap cap with
      | some m => match bnd hi n m with
        | some h => match bnd lo 0 h with
          | some l => some (.slc r (bif Nat.beq m l then off else off + l * s) (h - l) (m - l))
          | none => none
        | none => none
      | none => none
    | none => none
  | .opn r off n z => match elemE c t with
    | some (_, s, _) => bif Nat.beq s z then
        (match mx with
        | some _ => match bnd mx n n with
          | some m => match bnd hi n m with
            | some h => match bnd lo 0 h with
              | some l => some (.slc r (bif Nat.beq m l then off else off + l * s) (h - l) (m - l))
              | none => none
            | none => none
          | none => none
        | none => match bnd hi n n with
          | some h => match bnd lo 0 h with
            | some l => some (.opn r (off + l * s) (h - l) z)
            | none => none
          | none => none)
      else none
    | none => none
  | .nils => match elemE c t with
    | some _ => match bnd mx 0 0 with
      | some m => match bnd hi 0 m with
        | some h => match bnd lo 0 h with
          | some _ => some .nils
          | none => none
        | none => none
      | none => none
    | none => none
  | .ptr r off => match arrE c t with
    | some (n, _, s) => match bnd mx n n with
      | some m => match bnd hi n m with
        | some h => match bnd lo 0 h with
          | some l => some (.slc r (bif Nat.beq m l then off else off + l * s) (h - l) (m - l))
          | none => none
        | none => none
      | none => none
    | none => none
  | _ => none

def lenE : AV → Option Nat
  | .slc _ _ n _ => some n
  | .opn _ _ n _ => some n
  | .nils => some 0
  | .str s => some (len s 0)
  | _ => none
def ofByte (b : UInt8) : AV := .int .u8 b.toNat
def firstE (h : Heap) (size n : Nat) : AV → Option (List AV)
  | .slc r off _ _ => match h.get r with | .cells _ cs => sub off (n * size) cs | _ => none
  | .opn r off _ _ => match h.get r with | .cells _ cs => sub off (n * size) cs | _ => none
  | .nils => match n with | 0 => some [] | _ => none
  | .str s => match takeN n s with | some l => some (l.map ofByte) | none => none
  | _ => none
/-- append's second operand: how many elements, and their cells -/
def newsE (t : TypeId) (e : TypeId) (size bytes : Nat) (h : Heap) (x : AV) : Option (Nat × List AV) :=
  match x with
  | .int _ i => match und c t, natF i with
    | some (.int _), some n => bif Nat.ble (n * (bytes + 1)) lim then (zerosE c e n).map fun z => (n, z) else none
    | _, _ => none
  | x => match und c t with
    | some (.int _) => none
    | some _ => match lenE x with
      | some n => match firstE h size n x with
        | some l => bif Nat.beq (len l 0) (n * size) then some (n, l) else none
        | none => none
      | none => none
    | none => none
def fresh (e : TypeId) (size bytes n : Nat) (cs : List AV) (h : Heap) : Option (AV × Heap) :=
  bif Nat.ble (n * (bytes + 1)) lim && Nat.blt 0 size then
    match zeroCells c e with
    | some _ => h.next fun r => some (.opn r 0 n size, h.new (.cells false cs))
    | none => none
  else none
def appendE (ts : Array TypeId) (h : Heap) (s x : AV) : Option (AV × Heap) :=
  match ts[0]?, ts[1]? with
  | some t, some t' => match elemE c t with
    | some (e, size, bytes) => match newsE c t' e size bytes h x with
      | some (n, new) => match s with
        | .nils => (match n with | 0 => some (.nils, h) | n => fresh c e size bytes n new h)
        | .slc r off k cap => bif Nat.ble (k + n) cap then
            (match h.get r with
            | .cells false cs => match splice (off + k * size) new cs with
              | some cs' => some (.slc r off (k + n) cap, h.put r (off + k * size) (n * size) (.cells false cs'))
              | none => none
            | .cells true _ => match n with | 0 => some (.slc r off k cap, h) | _ => none
            | _ => none)
          else match h.get r with
            | .cells _ cs => match sub off (k * size) cs with
              | some old => fresh c e size bytes (k + n) (old ++ new) h
              | none => none
            | _ => none
        | .opn r off k z => bif Nat.beq z size then
            (match h.get r with
            | .cells false cs => bif Nat.ble (off + (k + n) * size) (len cs 0) then
                (match splice (off + k * size) new cs with
                | some cs' => some (.opn r off (k + n) z, h.put r (off + k * size) (n * size) (.cells false cs'))
                | none => none)
              else bif Nat.beq (off + k * size) (len cs 0) then
                (match sub off (k * size) cs with
                | some old => match fresh c e size bytes (k + n) (old ++ new) h with
                  | some (v, h') => some (v, h'.put r 0 whole .dead)
                  | none => none
                | none => none)
              else none
            | _ => none)
          else none
        | _ => none
      | none => none
    | none => none
  | _, _ => none
def copyE (ts : Array TypeId) (h : Heap) (d s : AV) : Option (AV × Heap) :=
  match ts[0]? with
  | some t => match elemE c t, lenE s, lenE d with
    | some (_, size, _), some ns, some nd =>
      let n := bif Nat.ble ns nd then ns else nd
      match firstE h size n s with
      | some new => bif !Nat.beq (len new 0) (n * size) then none else match d with
        | .slc r off _ _ => match h.get r with
          | .cells false cs => match splice off new cs with
            | some cs' => some (.int .i64 n, h.put r off (n * size) (.cells false cs'))
            | none => none
          | _ => none
        | .opn r off _ z => bif Nat.beq z size then match h.get r with
          | .cells false cs => match splice off new cs with
            | some cs' => some (.int .i64 n, h.put r off (n * size) (.cells false cs'))
            | none => none
          | _ => none
          else none
        | .nils => some (.int .i64 n, h)
        | _ => none
      | none => none
    | _, _, _ => none
  | none => none
def clearE (ts : Array TypeId) (h : Heap) (x : AV) : Option Heap :=
  match ts[0]? with
  | some t => match elemE c t with
    | some (e, size, _) => match x with
      | .nils => some h
      | .slc _ _ 0 _ => some h
      | .opn _ _ 0 _ => some h
      | .slc r off n _ => match zerosE c e n, h.get r with
        | some zs, .cells false cs => (splice off zs cs).map fun cs' => h.put r off (n * size) (.cells false cs')
        | _, _ => none
      | .opn r off n z => bif Nat.beq z size then match zerosE c e n, h.get r with
        | some zs, .cells false cs => (splice off zs cs).map fun cs' => h.put r off (n * size) (.cells false cs')
        | _, _ => none
        else none
      | _ => none
    | none => none
  | none => none

/-! #### maps: the keys are scalars, or structs of scalars -/
def keyEq (k k' : AV) : Option Bool :=
  match k, k' with
  | .agg a, .agg b => cellsEq a b
  | a, b => scalarEq a b
def find (k : AV) : List (AV × AV) → Option (Option AV)
  | [] => some none
  | (a, v) :: es => match keyEq k a with
    | some true => some (some v)
    | some false => find k es
    | none => none
def upd (k v : AV) : List (AV × AV) → Option (List (AV × AV))
  | [] => some [(k, v)]
  | (a, u) :: es => match keyEq k a with
    | some true => some ((k, v) :: es)
    | some false => match upd k v es with | some r => some ((a, u) :: r) | none => none
    | none => none
def del (k : AV) : List (AV × AV) → Option (List (AV × AV))
  | [] => some []
  | (a, u) :: es => match keyEq k a with
    | some true => some es
    | some false => match del k es with | some r => some ((a, u) :: r) | none => none
    | none => none
/-- whether a value can be a key of a map's type -/
def keyOk (t : TypeId) (k : AV) : Bool :=
  match k with
  | .agg l => c.keyT t && flatT c t l
  | k => scalarT c t k
def lookupE (t : TypeId) (h : Heap) (m k : AV) (ok : Bool) : Option AV :=
  match und c t with
  | some (.map kt e) =>
    bif !keyOk c kt k then none else
    match (match m with
      | .nilm => some none
      | .map r => (match h.get r with | .map kt' es => bif Nat.beq kt kt' then find k es else none | _ => none)
      | _ => none) with
    | some (some v) => some (bif ok then .tup [v, .bool true] else v)
    | some none => match zeroE c e with | some z => some (bif ok then .tup [z, .bool false] else z) | none => none
    | none => none
  | _ => none
def mapKey (t : TypeId) : Option TypeId := match und c t with | some (.map k _) => some k | _ => none
def updateE (t : TypeId) (h : Heap) (m k v : AV) : Option Heap :=
  match mapKey c t, m with
  | some kt, .map r => match h.get r with
    | .map kt' es => bif keyOk c kt k && Nat.beq kt kt' then (match upd k v es with | some es' => some (h.put r 0 whole (.map kt' es')) | none => none) else none
    | _ => none
  | _, _ => none
def deleteE (ts : Array TypeId) (h : Heap) (m k : AV) : Option Heap :=
  match ts[0]? with
  | some t => match mapKey c t, m with
    | some kt, .map r => match h.get r with
      | .map kt' es => bif keyOk c kt k && Nat.beq kt kt' then (match del k es with | some es' => some (h.put r 0 whole (.map kt' es')) | none => none) else none
      | _ => none
    | _, _ => none
  | none => none

def min2 : AV → AV → Option AV
  | .int k x, .int k' y => bif kindEq k k' then some (.int k (bif ltF y x then y else x)) else none
  | _, _ => none
def max2 : AV → AV → Option AV
  | .int k x, .int k' y => bif kindEq k k' then some (.int k (bif ltF x y then y else x)) else none
  | _, _ => none
def foldE (f : AV → AV → Option AV) : AV → List AV → Option AV
  | a, [] => some a
  | a, b :: l => match f a b with | some r => foldE f r l | none => none

def isByteT (e : TypeId) : Bool := match und c e with | some (.int .u8) => true | _ => false
def toByte : AV → Option UInt8
  | .int .u8 n => some (UInt8.ofNat n.toNat)
  | _ => none
def convE (src dst : TypeId) (h : Heap) (x : AV) : Option (AV × Heap) :=
  match und c src, und c dst, x with
  | some _, some (.int k), .int _ n => some (.int k (wrapF k n), h)
  | some _, some .string, .str s => some (.str s, h)
  | some _, some (.slice e), .str s =>
    bif isByteT c e && Nat.ble (len s 0) lim then h.next fun r => some (.opn r 0 (len s 0) 1, h.new (.cells false (s.map ofByte))) else none
  | some (.slice e), some .string, x =>
    bif isByteT c e then
      match lenE x with
      | some n => match firstE h 1 n x with
        | some cs => match allM toByte cs with | some bs => some (.str bs, h) | none => none
        | none => none
      | none => none
    else none
  | _, _, _ => none
def makeSliceE (t : TypeId) (h : Heap) (l k : AV) : Option (AV × Heap) :=
  match elemE c t, l, k with
  | some (e, _, bytes), .int _ l, .int _ k => match natF l, natF k with
    | some l, some k => bif Nat.ble l k && Nat.ble (k * (bytes + 1)) lim then
        match zerosE c e k with
        | some cs => h.next fun r => some (.slc r 0 l k, h.new (.cells false cs))
        | none => none
      else none
    | _, _ => none
  | _, _, _ => none

def methodRow (t : TypeId) (name : String) : Option (FuncId × Bool) :=
  match c.info t with
  | some i => match i.methods.find? (·.name == name) with
    | some m => bif m.path.isEmpty then m.func else none
    | none => none
  | none => none
/-- a method of a value that an interface holds: the function, and its receiver -/
def methodE (t : TypeId) (v : AV) (name : String) (h : Heap) : Option (FuncId × AV) :=
  match methodRow c t name, und c t with
  | some (f, true), some (.pointer _) => some (f, v)
  | some (f, false), some (.pointer e) => match v with
    | .ptr r off => match loadE c e h r off with | some x => some (f, x) | none => none
    | _ => none
  | some (f, false), some _ => some (f, v)
  | _, _ => none

def callFn (env : Env) (f : FuncId) : Fun :=
  match c.ext f with
  | some F => F
  | none => env.C f
def callV (env : Env) (f : AV) (args : List AV) (h : Heap) : Option (Out × Heap) :=
  match f with
  | .fn (.func f) first cap => callFn c env f (first ++ (args ++ cap)) h
  | .fn (.method name) first _ =>
    (match first ++ args with
     | .iface t v :: rest => match methodE c t v name h with
       | some (g, r) => callFn c env g (r :: rest) h
       | none => none
     | _ => none)
  | .yld l => env.Y l args h
  | _ => none

def orOf : Option (Out × Heap) → OR
  | some (.ret v, h) => .val v h
  | some (.pan v, h) => .pan v h
  | none => .bad
def val (h : Heap) : Option AV → OR
  | some v => .val v h
  | none => .bad
def val2 : Option (AV × Heap) → OR
  | some (v, h) => .val v h
  | none => .bad
def valH : Option Heap → OR
  | some h => .val undef h
  | none => .bad

def evL (tm : T AV) : List Operand → List AV
  | [] => []
  | x :: l => ev tm x :: evL tm l
def evP (tm : T AV) : List (Nat × Operand) → List (Nat × AV)
  | [] => []
  | (i, x) :: l => (i, ev tm x) :: evP tm l

def nilCheckE (x : AV) : Option AV :=
  match x with
  | .nilp => none
  | .nili => none
  | .nilf => none
  | .fn (.method name) (.iface t v :: l) k => match methodRow c t name, und c t, v with
    | some (_, true), some _, _ => some (.fn (.method name) (.iface t v :: l) k)
    | some (_, false), some (.pointer _), .ptr r o => some (.fn (.method name) (.iface t (.ptr r o) :: l) k)
    | some (_, false), some (.pointer _), _ => none
    | some (_, false), some _, v => some (.fn (.method name) (.iface t v :: l) k)
    | _, _, _ => none
  | .fn (.method _) _ _ => none
  | .raw _ => none
  | v => some v

def builtinE (b : Builtin) (ts : Array TypeId) (args : List AV) (h : Heap) : OR :=
  match b, args with
  | .len, [x] => (match (match ts[0]? with | some t => und c t | none => none) with
    | some (.map _ _) => (match x with
      | .map r => (match h.get r with | .map _ es => .val (.int .i64 (len es 0)) h | _ => .bad)
      | .nilm => .val (.int .i64 0) h
      | _ => .bad)
    | some .string => (match x with | .str s => .val (.int .i64 (len s 0)) h | _ => .bad)
    | some (.slice _) => (match x with
      | .slc _ _ n _ => .val (.int .i64 n) h
      | .opn _ _ n _ => .val (.int .i64 n) h
      | .nils => .val (.int .i64 0) h
      | _ => .bad)
    | _ => .bad)
  | .cap, [x] => (match (match ts[0]? with | some t => und c t | none => none) with
    | some (.slice _) => (match x with
      | .nils => .val (.int .i64 0) h
      | .slc _ _ _ k => .val (.int .i64 k) h
      | _ => .bad)
    | _ => .bad)
  | .append, [s, x] => val2 (appendE c ts h s x)
  | .copy, [d, x] => val2 (copyE c ts h d x)
  | .min, x :: l => val h (foldE min2 x l)
  | .max, x :: l => val h (foldE max2 x l)
  | .recover, [] => .recov
  | .delete, [m, k] => valH (deleteE c ts h m k)
  | .clear, [x] => valH (clearE c ts h x)
  | _, _ => .bad

structure SO where run : Env → T AV → Heap → OR
def oMove (x : Operand) : SO := ⟨fun _ tm h => .val (ev tm x) h⟩
def oPick (k a b : Operand) : SO := ⟨fun _ tm h => match ev tm k with | .bool true => .val (ev tm a) h | .bool false => .val (ev tm b) h | _ => .bad⟩
def oAlloc (e : TypeId) : SO := ⟨fun _ _ h => match zeroCells c e with | some z => h.next fun r => .val (.ptr r 0) (h.new (.cells false z)) | none => .bad⟩
def oBox (x : Operand) : SO := ⟨fun _ tm h => match cellsOf (ev tm x) with | some z => h.next fun r => .val (.ptr r 0) (h.new (.cells false z)) | none => .bad⟩
def oBuild (t : TypeId) (ps : Array (Nat × Operand)) : SO := ⟨fun _ tm h => val h (buildE c t (evP tm ps.toList))⟩
def oBuildSlice (t : TypeId) (n : Nat) (ps : Array (Nat × Operand)) : SO := ⟨fun _ tm h => match elemE c t with
    | some (e, s, _) => bif Nat.ble (n * s) 65536 then
        (match zerosE c e n with
        | some zs => match fillE (placeA s) (evP tm ps.toList) zs with
          | some cs => h.next fun r => .val (.slc r 0 n n) (h.new (.cells false cs))
          | none => .bad
        | none => .bad)
      else .bad
    | none => .bad⟩
def oLoad (t : TypeId) (a : Operand) : SO := ⟨fun _ tm h => match ev tm a with | .ptr r off => val h (loadE c t h r off) | _ => .bad⟩
def oStore (t : TypeId) (a x : Operand) : SO := ⟨fun _ tm h => match ev tm a with | .ptr r off => valH (storeE c t h r off (ev tm x)) | _ => .bad⟩
def oNilCheck (x : Operand) : SO := ⟨fun _ tm h => val h (nilCheckE c (ev tm x))⟩
def oBin (op : BinOp) (t : TypeId) (x y : Operand) : SO := ⟨fun _ tm h => val h (binE c op t (isC x || isC y) (ev tm x) (ev tm y))⟩
def oUn (op : UnOp) (x : Operand) : SO := ⟨fun _ tm h => val h (unE op (ev tm x))⟩
def oConv (a b : TypeId) (x : Operand) : SO := ⟨fun _ tm h => val2 (convE c a b h (ev tm x))⟩
def oIface (t : TypeId) (x : Operand) : SO := ⟨fun _ tm h => match und c t with | some (.interface _) => .bad | some _ => .val (.iface t (ev tm x)) h | none => .bad⟩
def oFunc (f : Fn) (a b : Array Operand) : SO := ⟨fun _ tm h => match f with | .yield _ => .bad | f => .val (.fn f (evL tm a.toList) (evL tm b.toList)) h⟩
def oMap (t : TypeId) (r : Option Operand) : SO := ⟨fun _ tm h => match mapKey c t with
    | some kt => (match r with
      | none => h.next fun r => .val (.map r) (h.new (.map kt []))
      | some x => match ev tm x with
        | .int .. => h.next fun r => .val (.map r) (h.new (.map kt []))
        | _ => .bad)
    | none => .bad⟩
def oMakeSlice (t : TypeId) (l k : Operand) : SO := ⟨fun _ tm h => val2 (makeSliceE c t h (ev tm l) (ev tm k))⟩
def oSlice (t : TypeId) (x : Operand) (lo hi mx : Option Operand) : SO := ⟨fun _ tm h => bif !(mx.isNone || hi.isSome) then .bad else val h (sliceE c t (ev tm x) (lo.map (ev tm)) (hi.map (ev tm)) (mx.map (ev tm)))⟩
def oFieldAddr (t : TypeId) (x : Operand) (f : Nat) : SO := ⟨fun _ tm h => match fieldE c t f, ev tm x with
    | some (o, _, s), .ptr r off => bif Nat.blt 0 s then .val (.ptr r (off + o)) h else .bad
    | _, _ => .bad⟩
def oField (t : TypeId) (x : Operand) (f : Nat) : SO := ⟨fun _ tm h => match fieldE c t f, ev tm x with
    | some (o, a, s), .agg cs => val h (part (a, s) cs o)
    | _, _ => .bad⟩
def oIndexAddr (t : TypeId) (x i : Operand) : SO := ⟨fun _ tm h => val h (indexAddrE c t (ev tm x) (ev tm i))⟩
def oIndex (t : TypeId) (x i : Operand) : SO := ⟨fun _ tm h => val h (indexE c t (ev tm x) (ev tm i))⟩
def oLookup (t : TypeId) (x k : Operand) (ok : Bool) : SO := ⟨fun _ tm h => val h (lookupE c t h (ev tm x) (ev tm k) ok)⟩
def oUpdate (t : TypeId) (m k x : Operand) : SO := ⟨fun _ tm h => valH (updateE c t h (ev tm m) (ev tm k) (ev tm x))⟩
def oRange (t : TypeId) (x : Operand) : SO := ⟨fun _ tm h => match und c t, ev tm x with
    | some .string, .str b => h.next fun r => .val (.ptr r 0) (h.new (.iter b 0))
    | _, _ => .bad⟩
def oNext (it : Operand) : SO := ⟨fun _ tm h => match ev tm it with
    | .ptr r 0 => (match h.get r with
      | .iter b pos => match nth pos b with
        | some x => bif Nat.blt x.toNat 128 then .val (.tup [.bool true, .int .i64 pos, .int .i32 x.toNat]) (h.put r 0 whole (.iter b (pos + 1))) else .bad
        | none => .val (.tup [.bool false]) h
      | _ => .bad)
    | _ => .bad⟩
def assertE (as : TypeId) (ok : Bool) (x : AV) : Option AV :=
  match und c as, x with
  | some (.interface _), _ => none
  | some _, .nili => bif ok then (zeroE c as).map fun z => .tup [z, .bool false] else none
  | some _, .iface t v => bif Nat.beq t as then some (bif ok then .tup [v, .bool true] else v) else bif ok then (zeroE c as).map fun z => .tup [z, .bool false] else none
  | _, _ => none
def oAssert (x : Operand) (as : TypeId) (ok : Bool) : SO := ⟨fun _ tm h => val h (assertE c as ok (ev tm x))⟩
def oExtract (t : Operand) (i : Nat) : SO := ⟨fun _ tm h => match ev tm t with | .tup vs => val h (nth i vs) | _ => .bad⟩
def oPanic (x : Operand) : SO := ⟨fun _ tm h => match ev tm x with | .iface t v => .pan (.iface t v) h | _ => .bad⟩
def oDefer (k : Call) : SO := ⟨fun _ tm _ => match k.callee with
    | .value f => (match ev tm f with
      | .fn (.func g) x y => .dfr { fn := some (.fn (.func g) x y), blk := 0, args := evL tm k.args.toList }
      | _ => .bad)
    | _ => .bad⟩
def oCallF (f : FuncId) (args : Array Operand) : SO := ⟨fun env tm h => orOf (callFn c env f (evL tm args.toList) h)⟩
def oCallV (f : Operand) (args : Array Operand) : SO := ⟨fun env tm h => orOf (callV c env (ev tm f) (evL tm args.toList) h)⟩
def oInvoke (r : Operand) (name : String) (args : Array Operand) : SO := ⟨fun env tm h => match ev tm r with
    | .iface t v => match methodE c t v name h with
      | some (g, x) => orOf (callFn c env g (x :: evL tm args.toList) h)
      | none => .bad
    | _ => .bad⟩
def oBuiltin (b : Builtin) (args : Array Operand) (ts : Array TypeId) : SO := ⟨fun _ tm h => builtinE c b ts (evL tm args.toList) h⟩
def oBad : SO := ⟨fun _ _ _ => .bad⟩
def oCallO (f : Operand) (args : Array Operand) : SO :=
  match f with
  | .func f => oCallF c f args
  | f => oCallV c f args
def oCall (k : Call) : SO :=
  match k with
  | ⟨callee, args, ts⟩ => match callee with
    | .value f => oCallO c f args
    | .invoke r name => oInvoke c r name args
    | .builtin b => oBuiltin c b args ts
def compOp (o : Op) : SO :=
  match o with
  | .move x => oMove x
  | .assign x => oMove x
  | .pick k a b => oPick k a b
  | .alloc e => oAlloc c e
  | .box _ x => oBox x
  | .build t ps => oBuild c t ps
  | .buildSlice t n ps => oBuildSlice c t n ps
  | .load t a => oLoad c t a
  | .store t a x => oStore c t a x
  | .nilCheck x => oNilCheck c x
  | .binOp op t x y _ => oBin c op t x y
  | .unOp op _ x => oUn op x
  | .convert a b x => oConv c a b x
  | .makeInterface t x => oIface c t x
  | .makeFunc f a b => oFunc f a b
  | .makeMap t r => oMap c t r
  | .makeSlice t l k => oMakeSlice c t l k
  | .slice t x lo hi mx => oSlice c t x lo hi mx
  | .fieldAddr t x f => oFieldAddr c t x f
  | .field t x f => oField c t x f
  | .indexAddr t x i => oIndexAddr c t x i
  | .index t x i => oIndex c t x i
  | .lookup t x k ok => oLookup c t x k ok
  | .mapUpdate t m k x => oUpdate c t m k x
  | .insert t m k x => oUpdate c t m k x
  | .range t x => oRange c t x
  | .next it s => bif s then oNext it else oBad
  | .typeAssert x _ as ok => oAssert c x as ok
  | .extract t i => oExtract t i
  | .panic x => oPanic x
  | .defer k => oDefer k
  | .call k => oCall c k
  | _ => oBad

def putT (tm : T AV) (d : Option Tmp) (v : AV) : T AV :=
  match d with
  | some i => T.set undef tm i v
  | none => tm
/-- whether a guard lets an operation run -/
def wants (ops : Array Oper) (o : Oper) (tm : T AV) : Bool :=
  match o.guard with
  | none => true
  | some (j, want) => match (match ops[j]? with | some p => p.dst | none => none) with
    | some d => match T.get undef tm d with
      | .bool b => b == want
      | _ => false
    | none => false

structure SC where run : Env → St → Option (Ex × St)
structure SG where get : T AV → Heap → Option AV
/-- an operation by what it needs -/
inductive SK where
  | tot (g : SV)
  | rd (g : SG)
  | gen (g : SO)
def kBin (op : BinOp) (t : TypeId) (x y : Operand) : SG := ⟨fun tm _ => binE c op t (isC x || isC y) (ev tm x) (ev tm y)⟩
def kLoad (t : TypeId) (a : Operand) : SG := ⟨fun tm h => match ev tm a with | .ptr r off => loadE c t h r off | _ => none⟩
def kNil (x : Operand) : SG := ⟨fun tm _ => nilCheckE c (ev tm x)⟩
def kFieldAddr (f : Option (Nat × Bool × Nat)) (x : Operand) : SG := match f with
  | some (o, _, s) => bif Nat.blt 0 s then ⟨fun tm _ => match ev tm x with | .ptr r off => some (.ptr r (off + o)) | _ => none⟩ else ⟨fun _ _ => none⟩
  | none => ⟨fun _ _ => none⟩
def kIndexAddr (t : TypeId) (x i : Operand) : SG := ⟨fun tm _ => indexAddrE c t (ev tm x) (ev tm i)⟩
def kExtract (t : Operand) (i : Nat) : SG := ⟨fun tm _ => match ev tm t with | .tup vs => nth i vs | _ => none⟩
def kPick (k a b : Operand) : SG := ⟨fun tm _ => match ev tm k with | .bool true => some (ev tm a) | .bool false => some (ev tm b) | _ => none⟩
def compK (o : Op) : SK :=
  match o with
  | .move x => .tot (compV x)
  | .assign x => .tot (compV x)
  | .binOp op t x y _ => .rd (kBin c op t x y)
  | .load t a => .rd (kLoad c t a)
  | .nilCheck x => .rd (kNil c x)
  | .fieldAddr t x f => .rd (kFieldAddr (fieldE c t f) x)
  | .indexAddr t x i => .rd (kIndexAddr c t x i)
  | .extract t i => .rd (kExtract t i)
  | .pick k a b => .rd (kPick k a b)
  | o => .gen (compOp c o)

def stepTot (g : SV) (d : Setter AV) (k : SC) (env : Env) (s : St) : Option (Ex × St) :=
  match s with
  | ⟨tm, hp, df, pn⟩ => k.run env ⟨d.run tm (g.get tm), hp, df, pn⟩
def goOn (d : Setter AV) (k : SC) (env : Env) (tm : T AV) (hp : Heap) (df : List ADef) (pn : Option (AV × Bool)) (v : Option AV) : Option (Ex × St) :=
  match v with
  | some v => k.run env ⟨d.run tm v, hp, df, pn⟩
  | none => none
def stepRd (g : SG) (d : Setter AV) (k : SC) (env : Env) (s : St) : Option (Ex × St) :=
  match s with
  | ⟨tm, hp, df, pn⟩ => goOn d k env tm hp df pn (g.get tm hp)
def noSet : Setter AV := ⟨fun t _ => t⟩
def recovE (d : Setter AV) (k : SC) (env : Env) (tm : T AV) (hp : Heap) (df : List ADef) (pn : Option (AV × Bool)) : Option (Ex × St) :=
  match env.rnd with
  | some _ => none
  | none => match pn with
    | some (v, false) => k.run env ⟨d.run tm v, hp, df, some (v, true)⟩
    | pn => k.run env ⟨d.run tm .nili, hp, df, pn⟩
def goGen (d : Setter AV) (k : SC) (env : Env) (tm : T AV) (hp : Heap) (df : List ADef) (pn : Option (AV × Bool)) (r : OR) : Option (Ex × St) :=
  match r with
  | .val v h => k.run env ⟨d.run tm v, h, df, pn⟩
  | .dfr x => match env.rnd with
    | none => k.run env ⟨d.run tm undef, hp, x :: df, pn⟩
    | some _ => none
  | .pan v h => some (.panic v, ⟨tm, h, df, pn⟩)
  | .recov => recovE d k env tm hp df pn
  | .bad => none
def stepGen (g : SO) (d : Setter AV) (k : SC) (env : Env) (s : St) : Option (Ex × St) :=
  match s with
  | ⟨tm, hp, df, pn⟩ => goGen d k env tm hp df pn (g.run env tm hp)
def stepK (x : SK) (d : Setter AV) (k : SC) : SC :=
  match x with
  | .tot g => ⟨stepTot g d k⟩
  | .rd g => ⟨stepRd g d k⟩
  | .gen g => ⟨stepGen g d k⟩
/-- the operation, or nothing, as its guard says -/
def guarded (want : T AV → Bool) (yes : SC) (d : Setter AV) (k : SC) (env : Env) (s : St) : Option (Ex × St) :=
  match s with
  | ⟨tm, hp, df, pn⟩ => match want tm with
    | true => yes.run env ⟨tm, hp, df, pn⟩
    | false => k.run env ⟨d.run tm undef, hp, df, pn⟩
def setOf (d : Option Tmp) : Setter AV :=
  match d with
  | some i => setter undef (path i)
  | none => noSet
def stepO (ops : Array Oper) (o : Oper) (k : SC) : SC :=
  match o.guard with
  | none => stepK (compK c o.op) (setOf o.dst) k
  | some _ => ⟨guarded (wants ops o) (stepK (compK c o.op) (setOf o.dst) k) (setOf o.dst) k⟩
def compOps (ops : Array Oper) : List Oper → SC
  | [] => ⟨fun _ s => some (.normal, s)⟩
  | o :: rest => stepO c ops o (compOps ops rest)

/-! #### regions that draw their order -/
abbrev Rng := Nat × Nat × Nat
/-- what an operation may do: anything; put an entry into a map that is being made; look at some places, and no more -/
inductive Kind where
  | any | ins | looks (l : List Rng)
/-- what an operation may do, and what it wrote of the rows that were there -/
structure FP where
  k : Kind
  w : List Rng
def rowOf : AV → List Rng
  | .ptr r _ => [(r, 0, whole)]
  | .slc r _ _ _ => [(r, 0, whole)]
  | .opn r _ _ _ => [(r, 0, whole)]
  | .map r => [(r, 0, whole)]
  | _ => []
def placeOf (t : TypeId) : AV → List Rng
  | .ptr r off => match sizeE c t with | some 0 => [(r, off, 1)] | some n => [(r, off, n)] | none => [(r, 0, whole)]
  | _ => []
def callReads (k : Call) (tm : T AV) : Kind :=
  match k with
  | ⟨callee, args, _⟩ => match callee with
    | .builtin .len => match evL tm args.toList with
      | [.map r] => .looks [(r, 0, whole)]
      | _ => .looks []
    | .builtin .min => .looks []
    | .builtin .max => .looks []
    | _ => .any
def readsOf (o : Op) (tm : T AV) : Kind :=
  match o with
  | .load t a => .looks (placeOf c t (ev tm a))
  | .lookup _ m _ _ => .looks (rowOf (ev tm m))
  | .convert _ _ x => .looks (rowOf (ev tm x))
  | .call k => callReads k tm
  | .move _ | .assign _ | .pick .. | .alloc _ | .box .. | .build .. | .buildSlice .. | .nilCheck _ | .binOp .. | .unOp .. | .makeInterface .. | .makeFunc .. | .makeMap .. | .makeSlice ..
  | .slice .. | .fieldAddr .. | .field .. | .indexAddr .. | .index .. | .range .. | .typeAssert .. | .extract .. => .looks []
  | _ => .any
/-- a range of this length is the whole row -/
def ends (a : Rng) (i : Nat) : Bool := Nat.ble whole a.2.2 || Nat.blt i (a.2.1 + a.2.2)
def meet1 (a b : Rng) : Bool := Nat.beq a.1 b.1 && ends a b.2.1 && ends b a.2.1
def meets : List Rng → List Rng → Bool
  | [], _ => false
  | a :: l, m => (m.any (meet1 a)) || meets l m
def compat (a b : FP) : Bool :=
  match a.k, b.k with
  | .looks _, .looks _ => true
  | .ins, .ins => true
  | .looks l, _ => !meets b.w l
  | _, .looks l => !meets a.w l
  | _, _ => false
structure Did where
  i : Nat
  fp : FP
  lo : Nat
  hi : Nat
/-- whether operation i comes ahead of j in every order -/
def ahead (bf : Array Nat) (i j : Nat) : Bool := match bf[j]? with | some m => m.testBit i | none => false
def hides (bf : Array Nat) (j : Nat) : List Did → List (Nat × Nat) → List (Nat × Nat)
  | [], l => l
  | d :: ds, l => hides bf j ds (bif ahead bf d.i j || Nat.ble d.hi d.lo then l else (d.lo, d.hi) :: l)
def fits (bf : Array Nat) (j : Nat) (fp : FP) : List Did → Bool
  | [] => true
  | d :: ds => bif ahead bf d.i j || compat d.fp fp then fits bf j fp ds else false
/-- whether operation j has a place of its own in every order of n operations -/
def single (bf : Array Nat) (n j : Nat) : Bool := (List.range n).all fun i => Nat.beq i j || ahead bf i j || ahead bf j i
/-- the rows below a mark -/
def below (mark : Nat) : List Rng → List Rng → List Rng
  | [], l => l
  | r :: rs, l => below mark rs (bif Nat.blt r.1 mark then r :: l else l)

/-- what is kept of an operation that was done: nothing, if it looked at no row, wrote and made none -/
def keep (d : Did) (ds : List Did) : List Did :=
  match d.fp.k with
  | .looks [] => bif Nat.ble d.hi d.lo then ds else d :: ds
  | _ => d :: ds
structure SD where run : St → List Did → Env → Option (Ex × St)
def drawVal (bf : Array Nat) (j : Nat) (d : Setter AV) (k : SD) (env : Env) (ds : List Did) (tm : T AV) (size mark : Nat) (log : List Rng) (hide : List (Nat × Nat))
    (df : List ADef) (pn : Option (AV × Bool)) (r : Kind) (v : AV) (h : Heap) : Option (Ex × St) :=
  match h with
  | ⟨size', tr', _, log', _⟩ =>
    bif fits bf j ⟨r, log'⟩ ds then
      k.run ⟨d.run tm v, ⟨size', tr', mark, below mark log' log, hide⟩, df, pn⟩ (keep ⟨j, ⟨r, log'⟩, size, size'⟩ ds) env
    else none
def drawRun (bf : Array Nat) (j n : Nat) (kd : T AV → Kind) (g : SO) (d : Setter AV) (k : SD) (s : St) (ds : List Did) (env : Env) : Option (Ex × St) :=
  match s with
  | ⟨tm, ⟨size, tr, mark, log, hide⟩, df, pn⟩ =>
    match g.run env tm ⟨size, tr, size, [], hides bf j ds hide⟩ with
    | .val v h => drawVal bf j d k env ds tm size mark log hide df pn (kd tm) v h
    | .pan v ⟨size', tr', _, log', _⟩ =>
      bif single bf n j then some (.panic v, ⟨tm, ⟨size', tr', mark, below mark log' log, hide⟩, df, pn⟩) else none
    | _ => none
/-- an operation that looks at no row -/
def drawPure (g : SV) (d : Setter AV) (k : SD) (s : St) (ds : List Did) (env : Env) : Option (Ex × St) :=
  match s with
  | ⟨tm, h, df, pn⟩ => k.run ⟨d.run tm (g.get tm), h, df, pn⟩ ds env
def drawGuard (want : T AV → Bool) (yes : SD) (d : Setter AV) (k : SD) (s : St) (ds : List Did) (env : Env) : Option (Ex × St) :=
  match s with
  | ⟨tm, h, df, pn⟩ => match want tm with
    | true => yes.run ⟨tm, h, df, pn⟩ ds env
    | false => k.run ⟨d.run tm undef, h, df, pn⟩ ds env
/-- a new entry of a map that is being made -/
def oInsert (t : TypeId) (m k x : Operand) : SO := ⟨fun _ tm h => match mapKey c t, ev tm m with
  | some kt, .map r => match h.get r with
    | .map kt' es => bif keyOk c kt (ev tm k) && Nat.beq kt kt' then
        (match find (ev tm k) es with
        | some none => .val undef (h.put r 0 whole (.map kt' (es ++ [(ev tm k, ev tm x)])))
        | _ => .bad)
      else .bad
    | _ => .bad
  | _, _ => .bad⟩
/-- whether an operation may do anything -/
def isAny (o : Op) : Bool :=
  match o with
  | .call ⟨.builtin .len, _, _⟩ => false
  | .call ⟨.builtin .min, _, _⟩ => false
  | .call ⟨.builtin .max, _, _⟩ => false
  | .call _ => true
  | .load .. | .lookup .. | .convert .. | .insert .. => false
  | .move _ | .assign _ | .pick .. | .alloc _ | .box .. | .build .. | .buildSlice .. | .nilCheck _ | .binOp .. | .unOp .. | .makeInterface .. | .makeFunc .. | .makeMap .. | .makeSlice ..
  | .slice .. | .fieldAddr .. | .field .. | .indexAddr .. | .index .. | .range .. | .typeAssert .. | .extract .. => false
  | _ => true
/-- whether the inserts of a region may come in any order -/
def loose (ops : Array Oper) : Bool := ops.toList.all fun o => !isAny o.op
def drawK (bf : Array Nat) (j n : Nat) (ls : Bool) (o : Oper) (k : SD) : SD :=
  match o.op with
  | .move x => ⟨drawPure (compV x) (setOf o.dst) k⟩
  | .assign x => ⟨drawPure (compV x) (setOf o.dst) k⟩
  | .insert t m y x => bif ls then ⟨drawRun bf j n (fun _ => .ins) (oInsert c t m y x) (setOf o.dst) k⟩ else ⟨drawRun bf j n (fun _ => .any) (oUpdate c t m y x) (setOf o.dst) k⟩
  | p => ⟨drawRun bf j n (readsOf c p) (compOp c p) (setOf o.dst) k⟩
def drawO (ops : Array Oper) (bf : Array Nat) (j n : Nat) (ls : Bool) (o : Oper) (k : SD) : SD :=
  match o.guard with
  | none => drawK c bf j n ls o k
  | some _ => ⟨drawGuard (wants ops o) (drawK c bf j n ls o k) (setOf o.dst) k⟩
def compDraw (ops : Array Oper) (bf : Array Nat) (n : Nat) (ls : Bool) : List Oper → Nat → SD
  | [], _ => ⟨fun s _ _ => some (.normal, s)⟩
  | o :: rest, j => drawO c ops bf j n ls o (compDraw ops bf n ls rest (j + 1))
def loopN (f : Env → St → Option (Ex × St)) : Nat → Env → St → Option (Ex × St)
  | 0 => fun _ _ => none
  | n + 1 => fun env s =>
    match f env s with
    | some (.normal, s') => loopN f n env s'
    | r => r

def jumpOf : Option Code → Option Ex
  | none => some .normal
  | some .ret => some .ret
  | some (.exit i) => some (.exit i)
  | some _ => none

def thenC (a b : SC) (env : Env) (s : St) : Option (Ex × St) :=
  match a.run env s with
  | some (e, s') => match e with
    | .normal => b.run env s'
    | e => some (e, s')
  | none => none
def condC (x : SV) (a b : SC) (env : Env) (s : St) : Option (Ex × St) :=
  match x.get s.tm with
  | .bool t => match t with
    | true => a.run env s
    | false => b.run env s
  | _ => none
def blockC (id : Nat) (a : SC) (env : Env) (s : St) : Option (Ex × St) :=
  match a.run env s with
  | some (e, s') => match e with
    | .exit i => bif Nat.beq i id then some (.normal, s') else some (.exit i, s')
    | e => some (e, s')
  | none => none
def rangeE (tm : T AV) (df : List ADef) (pn : Option (AV × Bool)) (l : Nat) (o : Option (Out × Heap)) : Option (Ex × St) :=
  match o with
  | some (.ret _, h3) => (match h3.get l with
    | .loop r => (match r.state with
      | .busy => none
      | _ => match jumpOf r.pending with
        | some e => some (e, ⟨tm, h3.put l 0 whole (.loop { r with state := .exhausted }), df, pn⟩)
        | none => none)
    | _ => none)
  | some (.pan v, h3) => some (.panic v, ⟨tm, h3, df, pn⟩)
  | none => none
def rangeD (g : FuncId) (first cap : List AV) (params : Array Tmp) (assign body : Code) (env : Env) (tm : T AV) (df : List ADef) (pn : Option (AV × Bool)) (r : Nat) (h1 : Heap) : Option (Ex × St) :=
  h1.next fun l => rangeE tm ({ fn := none, blk := r, args := [] } :: df) pn l
    (env.C g (first ++ (.yld l :: cap)) (h1.new (.loop { state := .ready, pending := none, fn := env.fid, tm := tm, params := params.toList, assign, body, defers := r })))
def rangeC (f : Operand) (params : Array Tmp) (assign body : Code) (env : Env) (s : St) : Option (Ex × St) :=
  match s with
  | ⟨tm, h0, df, pn⟩ => match env.rnd with
    | some _ => none
    | none => match ev tm f with
      | .fn (.func g) first cap => h0.next fun r => rangeD g first cap params assign body env tm df pn r (h0.new (.dfr false))
      | _ => none
def drawC (ops : Array Oper) (env : Env) (s : St) : Option (Ex × St) :=
  (compDraw c ops (Region.before ops) ops.size (loose ops) ops.toList 0).run s [] env
def comp : Code → SC
  | .skip => ⟨fun _ s => some (.normal, s)⟩
  | .label _ => ⟨fun _ s => some (.normal, s)⟩
  | .region _ ops false => compOps c ops ops.toList
  | .region _ ops true => ⟨drawC c ops⟩
  | .seq a b => ⟨thenC (comp a) (comp b)⟩
  | .cond x a b => ⟨condC (compV x) (comp a) (comp b)⟩
  | .block id a => ⟨blockC id (comp a)⟩
  | .loop a => ⟨fun env s => loopN (comp a).run c.fuel env s⟩
  | .scope a => comp a
  | .exit id => ⟨fun _ s => some (.exit id, s)⟩
  | .ret => ⟨fun _ s => some (.ret, s)⟩
  | .rangeFunc f params assign body => ⟨rangeC f params assign body⟩
  | _ => ⟨fun _ _ => none⟩

def resE (tm : T AV) (h : Heap) : List ResultVar → Option (List AV)
  | [] => some []
  | r :: rs => match (match r with
      | .tmp t => some (T.get undef tm t)
      | .cell a t => match T.get undef tm a with | .ptr r off => loadE c t h r off | _ => none) with
    | some v => match resE tm h rs with | some vs => some (v :: vs) | none => none
    | none => none
def tupOf : List AV → AV
  | [v] => v
  | vs => .tup vs
def setAll : List AV → Nat → T AV → T AV
  | [], _, tm => tm
  | a :: l, i, tm => setAll l (i + 1) (T.set undef tm i a)
def setPar : List Tmp → List AV → T AV → Option (T AV)
  | [], [], tm => some tm
  | p :: ps, a :: l, tm => setPar ps l (T.set undef tm p a)
  | _, _, _ => none

inductive Task where
  | fn (f : FuncId) (args : List AV) (rc : Option AV)
  | yld (l : Nat) (args : List AV)

/-- the deferred calls, one after the other; m: what the function panics with -/
def defs (D : Task → Heap → Option (Out × Bool × Heap)) : List ADef → Option AV → Heap → Option (Option AV × Heap)
  | [], m, h => some (m, h)
  | d :: ds, m, h =>
    match d.fn with
    | none => (match h.get d.blk with | .dfr false => defs D ds m (h.put d.blk 0 whole (.dfr true)) | _ => none)
    | some (.fn (.func g) first cap) =>
      (match D (.fn g (first ++ (d.args ++ cap)) m) h with
      | some (.ret _, rcd, h') => defs D ds (bif rcd then none else m) h'
      | _ => none)
    | some _ => none

structure SB where
  code : SC
  nt : Nat
  res : List ResultVar
def bodyOf (f : FuncId) : Option SB :=
  match c.fn f with
  | some fn => match fn.body with
    | some b => some ⟨comp c b, fn.ntmps, fn.results.toList⟩
    | none => none
  | none => none

def exec : Nat → Task → Heap → Option (Out × Bool × Heap)
  | 0 => fun _ _ => none
  | n + 1 => fun t h =>
    match t with
    | .fn f args rc =>
      match bodyOf c f with
      | some ⟨code, _nt, res⟩ =>
        (match code.run ⟨fun f args h => match exec n (.fn f args none) h with | some (o, _, h') => some (o, h') | none => none,
              fun l args h => match exec n (.yld l args) h with | some (o, _, h') => some (o, h') | none => none, none, f⟩
            ⟨setAll args 0 .nil, h, [], match rc with | some v => some (v, false) | none => none⟩ with
        | some (e, ⟨tm, h1, df, pn⟩) =>
          (match (match e with | .normal => some none | .ret => some none | .panic v => some (some v) | .exit _ => none) with
          | some m => (match defs (exec n) df m h1 with
            | some (none, h2) => (match resE c tm h2 res with
              | some vs => some (.ret (tupOf vs), (match pn with | some (_, b) => b | none => false), h2)
              | none => none)
            | some (some v, h2) => some (.pan v, (match pn with | some (_, b) => b | none => false), h2)
            | none => none)
          | none => none)
        | none => none)
      | none => none
    | .yld l args =>
      match h.get l with
      | .loop r =>
        (match setPar r.params args r.tm with
        | some tm =>
          let env : Env := ⟨fun f args h => match exec n (.fn f args none) h with | some (o, _, h') => some (o, h') | none => none,
              fun l args h => match exec n (.yld l args) h with | some (o, _, h') => some (o, h') | none => none, some l, r.fn⟩
          (match (comp c r.assign).run env ⟨tm, h, [], none⟩ with
          | some (.normal, ⟨tm1, h1, [], pn1⟩) => (match h1.get l with
            | .loop r1 => (match r1.state with
              | .ready =>
                (match (comp c r.body).run env ⟨tm1, h1.put l 0 whole (.loop { r1 with state := .busy }), [], pn1⟩ with
                | some (e, ⟨_, h2, [], _⟩) => (match h2.get l with
                  | .loop r2 => (match e with
                    | .normal => some (.ret (.bool true), false, h2.put l 0 whole (.loop { r2 with state := .ready, pending := none }))
                    | .ret => some (.ret (.bool false), false, h2.put l 0 whole (.loop { r2 with state := .done, pending := some .ret }))
                    | .exit i => some (.ret (.bool false), false, h2.put l 0 whole (.loop { r2 with state := .done, pending := some (.exit i) }))
                    | .panic v => some (.pan v, false, h2))
                  | _ => none)
                | _ => none)
              | _ => none)
            | _ => none)
          | _ => none)
        | none => none)
      | _ => none

def call (n : Nat) (f : FuncId) (args : List AV) (h : Heap) : Option (Out × Heap) :=
  match exec c n (.fn f args none) h with
  | some (o, _, h') => some (o, h')
  | none => none
end

/-! the guards of the regions that draw -/
def guardsOk (ops : Array Oper) (bf : Array Nat) : Bool :=
  ops.toList.zipIdx.all fun (o, j) => match o.guard with
    | none => true
    | some (g, _) => match (ops[g]?).bind (·.dst) with
      | none => true
      | some d => ops.toList.zipIdx.all fun (oi, i) => !(match oi.dst with | some d' => Nat.beq d' d | none => false) || Nat.beq i j || ahead bf (min i j) (max i j)
def goodDraws : Code → Bool
  | .region _ ops true => guardsOk ops (Region.before ops)
  | .seq a b => goodDraws a && goodDraws b
  | .cond _ a b => goodDraws a && goodDraws b
  | .block _ a => goodDraws a
  | .loop a => goodDraws a
  | .scope a => goodDraws a
  | .rangeFunc _ _ a b => goodDraws a && goodDraws b
  | _ => true
end Go.E
/-! E: what is known of functions without a body, and of a few with one. -/
namespace Go.E
def byteAt (b : UInt8) (n : Int) : Bool := Nat.beq b.toNat (n.toNat % 256)
def indexByteL (n : Int) : List UInt8 → Nat → Int
  | [], _ => -1
  | b :: l, i => bif byteAt b n then .ofNat i else indexByteL n l (i + 1)
def countL (n : Int) : List UInt8 → Nat → Nat
  | [], k => k
  | b :: l, k => bif byteAt b n then countL n l (k + 1) else countL n l k
def xIndexByte : Fun := fun args h => match args with
  | [.str s, .int .u8 n] => some (.ret (.int .i64 (indexByteL n s 0)), h)
  | _ => none
def xCount : Fun := fun args h => match args with
  | [.str s, .int .u8 n] => some (.ret (.int .i64 (.ofNat (countL n s 0))), h)
  | _ => none
def xErrorsAs (c : Cfg) : Fun := fun args h => match args with
  | [.nili, .iface _ (.ptr _ _)] => some (.ret (.bool false), h)
  | [.iface t v, .iface pt (.ptr r off)] =>
    (match und c pt with
     | some (.pointer e) => bif Nat.beq e t then (match storeE c e h r off v with | some h' => some (.ret (.bool true), h') | none => none) else none
     | _ => none)
  | _ => none
def startsL : List UInt8 → List UInt8 → Bool
  | [], _ => true
  | _ :: _, [] => false
  | a :: p, b :: l => Nat.beq a.toNat b.toNat && startsL p l
def replaceL (old new : List UInt8) : List UInt8 → List UInt8
  | [] => []
  | b :: l => bif startsL old (b :: l) then new ++ (b :: l).drop old.length else b :: replaceL old new l
def xReplace : Fun := fun args h => match args with
  | [.str s, .str (a :: old), .str new, .int .i64 1] => some (.ret (.str (replaceL (a :: old) new s)), h)
  | _ => none
/-! failure.join -/
def spansOf : Nat → List AV → Option (List (Int × Int))
  | 0, _ => some []
  | n + 1, .int _ _ :: .int _ a :: .int _ b :: l => (spansOf n l).map fun r => (a, b) :: r
  | _, _ => none
def readSpans (h : Heap) (v : AV) : Option (List (Int × Int)) :=
  match lenE v with
  | some n => match firstE h 3 n v with | some cs => spansOf n cs | none => none
  | none => none
def addAt (k d : Int) : List (Int × Int) → List (Int × Int)
  | [] => [(k, d)]
  | (a, x) :: l => bif eqF a k then (a, wrapF .i64 (x + d)) :: l else bif ltF k a then (k, d) :: (a, x) :: l else (a, x) :: addAt k d l
def changes : List (Int × Int) → List (Int × Int) → List (Int × Int)
  | [], m => m
  | (a, b) :: l, m => changes l (addAt b (-1) (addAt a 1 m))
def runsL (node many : Int) : List (Int × Int) → Int → Option Int → List (List AV)
  | [], _, none => []
  | [], _, some a => [[.int .i64 node, .int .i64 a, .int .i64 0]]
  | (t, d) :: l, f, o =>
    let f' := wrapF .i64 (f + d)
    match o with
    | none => bif leF many f' then runsL node many l f' (some t) else runsL node many l f' none
    | some a => bif leF many f' then runsL node many l f' (some a) else [.int .i64 node, .int .i64 a, .int .i64 t] :: runsL node many l f' none
def xJoin : Fun := fun args h => match args with
  | [lists, .int _ node, .int _ many] =>
    match lenE lists with
    | some n => match firstE h 1 n lists with
      | some ls => match allM (readSpans h) ls with
        | some ss => bif ltF 0 many then
            (match runsL node many (changes ss.flatten []) 0 none with
            | [] => some (.ret .nils, h)
            | l => h.next fun r => some (.ret (.opn r 0 l.length 3), h.new (.cells false l.flatten)))
          else none
        | none => none
      | none => none
    | none => none
  | _ => none
end Go.E
