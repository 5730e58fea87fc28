/- The abstract evaluator of the machine (part Eva): definitions and the proof that it is sound. No condition. -/
import GoSem.Step
/- The abstract evaluator's values and its small functions, in a form that the kernel reduces quickly. -/
noncomputable section
namespace Go.AE

/-! ### Values -/
inductive AFn where
  | func (f : Nat)
  | yield (b : Nat)
  deriving Inhabited, DecidableEq

inductive AVal where
  | unk
  | bool (b : Bool)
  | int (k : IntKind) (n : Int)
  | str (s : List UInt8)
  | nilp
  | ptr (b off : Nat)
  | eptr (size n : Nat) (f : Nat → List AVal) (i c : Nat)
  | nils
  | slice (b off size len cap : Nat) (exact : Bool)
  | pslice (size n : Nat) (f : Nat → List AVal) (cap : Nat) (exact : Bool)
  | nilm
  | map (b : Nat)
  | func (fn : AFn) (captured : List AVal)
  | nilFunc
  | nilIface
  | iface (t : Nat) (v : AVal)
  | agg (cells : List AVal)
  | tuple (vs : List AVal)
  deriving Inhabited

abbrev Env := Nat → AVal

/-! ### Tries -/
inductive PT (α : Type) where
  | nil
  | node (l : PT α) (v : Option α) (r : PT α)
  deriving Inhabited

def PT.get {α : Type} (t : PT α) : Nat → Option α :=
  PT.rec (motive := fun _ => Nat → Option α) (fun _ => none)
    (fun _ v _ gl gr n => cond (Nat.beq n 0) v (cond (Nat.beq (Nat.mod n 2) 1) (gl (Nat.div n 2)) (gr (Nat.sub (Nat.div n 2) 1)))) t
/-- 'setF fuel t n x': the trie with x at n (fuel above n serves). -/
def PT.setF {α : Type} (f : Nat) : PT α → Nat → Option α → PT α :=
  Nat.rec (motive := fun _ => PT α → Nat → Option α → PT α) (fun t _ _ => t)
    (fun _ ih t n x => PT.rec (motive := fun _ => PT α)
      (cond (Nat.beq n 0) (.node .nil x .nil) (cond (Nat.beq (Nat.mod n 2) 1) (.node (ih .nil (Nat.div n 2) x) none .nil) (.node .nil none (ih .nil (Nat.sub (Nat.div n 2) 1) x))))
      (fun l v r _ _ => cond (Nat.beq n 0) (.node l x r) (cond (Nat.beq (Nat.mod n 2) 1) (.node (ih l (Nat.div n 2) x) v r) (.node l v (ih r (Nat.sub (Nat.div n 2) 1) x)))) t) f
/-- a long walk's step, named, so that the kernel's stack ends there -/
def again {β : Type} (x : β) : β := x
def nthD (l : List AVal) : Nat → AVal :=
  List.rec (motive := fun _ => Nat → AVal) (fun _ => .tuple []) (fun x _ ih n => Nat.rec (motive := fun _ => AVal) x (fun m _ => again (ih m)) n) l
def nthO {α : Type} (l : List α) : Nat → Option α :=
  List.rec (motive := fun _ => Nat → Option α) (fun _ => none) (fun x _ ih n => Nat.rec (motive := fun _ => Option α) (some x) (fun m _ => again (ih m)) n) l
/-- the row with vs from place n on -/
def setMany (row : List AVal) : Nat → List AVal → List AVal :=
  List.rec (motive := fun _ => Nat → List AVal → List AVal) (fun _ _ => [])
    (fun x r ih n vs => Nat.rec (motive := fun _ => List AVal) (List.rec (motive := fun _ => List AVal) (x :: r) (fun v vs' _ => v :: ih 0 vs') vs) (fun m _ => x :: ih m vs) n) row
/-- n cells from place off on -/
def cut (row : List AVal) : Nat → Nat → List AVal :=
  List.rec (motive := fun _ => Nat → Nat → List AVal) (fun _ _ => [])
    (fun x _ ih off n => Nat.rec (motive := fun _ => List AVal) (Nat.rec (motive := fun _ => List AVal) [] (fun m _ => x :: ih 0 m) n) (fun o _ => again (ih o n)) off) row
def cutB (row : List UInt8) : Nat → Nat → List UInt8 :=
  List.rec (motive := fun _ => Nat → Nat → List UInt8) (fun _ _ => [])
    (fun x _ ih off n => Nat.rec (motive := fun _ => List UInt8) (Nat.rec (motive := fun _ => List UInt8) [] (fun m _ => x :: ih 0 m) n) (fun o _ => again (ih o n)) off) row
def dropA (row : List AVal) : Nat → List AVal :=
  List.rec (motive := fun _ => Nat → List AVal) (fun _ => []) (fun x r ih n => Nat.rec (motive := fun _ => List AVal) (x :: r) (fun m _ => again (ih m)) n) row
def app {α : Type} (xs ys : List α) : List α := List.rec (motive := fun _ => List α) ys (fun x _ ih => x :: ih) xs
def len {α : Type} (xs : List α) : Nat := List.rec (motive := fun _ => Nat) 0 (fun _ _ ih => Nat.succ ih) xs
def repl (n : Nat) (z : List AVal) : List AVal := Nat.rec (motive := fun _ => List AVal) [] (fun _ ih => app z ih) n
/-- f i, f (i + 1), .. (n of them), laid together -/
def gather (f : Nat → List AVal) (n : Nat) : Nat → List AVal :=
  Nat.rec (motive := fun _ => Nat → List AVal) (fun _ => []) (fun _ ih i => app (f i) (ih (Nat.succ i))) n
def allB {α : Type} (p : α → Bool) (l : List α) : Bool := List.rec (motive := fun _ => Bool) true (fun x _ ih => cond (p x) (again ih) false) l
def mapL {α β : Type} (f : α → β) (l : List α) : List β := List.rec (motive := fun _ => List β) [] (fun x _ ih => f x :: ih) l
def ikN (k : IntKind) : Nat := IntKind.rec (motive := fun _ => Nat) 0 1 2 3 4 5 6 7 k
/-- a whole number brought into its kind -/
def wrapA (k : IntKind) (n : Int) : Int :=
  match k with
  | .i64 => (n + 9223372036854775808) % 18446744073709551616 - 9223372036854775808
  | .u64 => n % 18446744073709551616
  | .i32 => (n + 2147483648) % 4294967296 - 2147483648
  | .u32 => n % 4294967296
  | .i16 => (n + 32768) % 65536 - 32768
  | .u16 => n % 65536
  | .i8 => (n + 128) % 256 - 128
  | .u8 => n % 256
def ikEq (a b : IntKind) : Bool := Nat.beq (ikN a) (ikN b)
def PT.set {α : Type} (t : PT α) (n : Nat) (x : Option α) : PT α := t.setF (Nat.succ n) n x

mutual
def ofValue : Value → AVal
  | .bool b => .bool b
  | .int k n => .int k n
  | .string s => .str s.data.toList
  | .pointer none => .nilp
  | .slice none 0 0 => .nils
  | .map none => .nilm
  | .nilFunc => .nilFunc
  | .nilIface => .nilIface
  | .agg ⟨cs⟩ => .agg (ofValues cs)
  | .tuple ⟨cs⟩ => .tuple (ofValues cs)
  | _ => .unk
def ofValues : List Value → List AVal
  | [] => []
  | v :: r => ofValue v :: ofValues r
end

/-- a word for a message -/
def tag : AVal → String
  | .unk => "unk" | .bool _ => "bool" | .int .. => "int" | .str _ => "str" | .nilp => "nilp" | .ptr .. => "ptr" | .eptr .. => "eptr" | .nils => "nils" | .slice .. => "slice" | .pslice .. => "pslice"
  | .nilm => "nilm" | .map _ => "map" | .func .. => "func" | .nilFunc => "nilFunc" | .nilIface => "nilIface" | .iface .. => "iface" | .agg _ => "agg" | .tuple _ => "tuple"

def cellsOf : AVal → List AVal
  | .agg cs => cs
  | v => [v]

def oneCell : AVal → Bool
  | .agg _ | .tuple _ | .unk => false
  | _ => true

def cellEqInt (y : AVal) : IntKind → Int → Option Bool := match y with | .int k' b => fun k a => cond (ikEq k k') (some (a == b)) none | _ => fun _ _ => none
def cellEqBool (y : AVal) : Bool → Option Bool := match y with | .bool b => fun a => some (a == b) | _ => fun _ => none
def cellEqStr (y : AVal) : List UInt8 → Option Bool := match y with | .str b => fun a => some (a == b) | _ => fun _ => none
def cellEq (x : AVal) : AVal → Option Bool :=
  match x with
  | .int k a => fun y => cellEqInt y k a
  | .bool a => fun y => cellEqBool y a
  | .str a => fun y => cellEqStr y a
  | _ => fun _ => none
end Go.AE

/- The abstract evaluator of the machine: its heap, its steps. (What is matched on comes first in each function, and the ways are closed: so the kernel unfolds little at a time.) -/
noncomputable section
namespace Go.AE

/-- what a run comes to -/
abbrev Res : Type := Prop
abbrev Fail (_ : String) : Res := False

structure ALoop where
  state : LoopState
  pending : Option Code
  fn : Nat
  tmps : Env
  size : Nat
  params : Array Tmp
  assign : Code
  body : Code
  defers : Nat

inductive AObj where
  | cells (n : Nat) (row : List AVal) (elem : Nat)
  | map (es : List (AVal × AVal × Nat)) (clock : Nat)
  | loop (l : ALoop)
  | deferred (fresh : Bool)
  | striter (s : List UInt8) (pos : Nat)

structure Heap where
  next : Nat
  m : PT AObj

/-- a row that may only be read bears a mark -/
def lockBit : Nat := 4294967296
def AObj.free (o : AObj) : Bool := match o with | .cells _ _ e => Nat.blt e lockBit | _ => true
def lockO (o : Option AObj) : Option AObj := match o with | some (.cells n row e) => some (.cells n row (e + lockBit)) | _ => none

def Heap.get (σ : Heap) (b : Nat) : Option AObj := σ.m.get b
def Heap.put (σ : Heap) (b : Nat) (o : Option AObj) : Heap := ⟨σ.next, σ.m.set b o⟩
def Heap.new (σ : Heap) (o : AObj) : Heap := ⟨Nat.succ σ.next, σ.m.set σ.next (some o)⟩

inductive AItem where
  | code (c : Code)
  | inBlock (id : Nat)
  | inLoop (body : Code)
  | inScope (body : Code)
  | inRegion (ops : Array Oper) (rest : List Oper)
  | inRangeFunc (b : Nat)
  | endRangeFunc (b : Nat)
  | beginRound

structure AFrame where
  fn : Nat
  tmps : Env
  size : Nat
  todo : List AItem
  defers : List Nat
  ret : Bool
  rnd : Option Nat

structure AConf where
  fr : AFrame
  cs : List AFrame
  σ : Heap

/-- What stands for a function's call. -/
structure Oracle where
  pre : List AVal → Bool
  val : List AVal → AVal

structure Ctx where
  P : Program
  O : Nat → Option Oracle
  G : Nat → AVal

def evalOp (x : Operand) : Ctx → Env → AVal :=
  match x with
  | .tmp t => fun _ ρ => ρ t
  | .const v => fun _ _ => ofValue v
  | .global g => fun C _ => C.G g
  | .func f => fun _ _ => .func (.func f) []
def evalOps (xs : List Operand) : Ctx → Env → List AVal :=
  List.rec (motive := fun _ => Ctx → Env → List AVal) (fun _ _ => []) (fun x _ ih C ρ => evalOp x C ρ :: ih C ρ) xs
def optV (x : Option Operand) : Ctx → Env → Option AVal :=
  match x with
  | some x => fun C ρ => some (evalOp x C ρ)
  | none => fun _ _ => none

def putE (ρ : Env) (d : Nat) (v : AVal) : Env := fun t => cond (Nat.beq t d) v (ρ t)

/-- goes on only where b is true -/
def chk (b : Bool) (why : String) (k : Res) : Res := cond b k (Fail why)

/-! ### What the program's table of types says -/
def isAggT (C : Ctx) (t : Nat) : Bool :=
  match C.P.underlying t with
  | some (.struct _) | some (.array _ _) => true
  | _ => false
def sizeT (C : Ctx) (t : Nat) : Nat := match C.P.info? t with | some i => i.size | none => 0
def bytesT (C : Ctx) (t : Nat) : Nat := match C.P.info? t with | some i => i.bytes | none => 0
def zeroT (C : Ctx) (t : Nat) : AVal := match C.P.info? t with | some i => (match i.zero with | some z => ofValue z | none => .unk) | none => .unk
/-- the table knows it -/
def okT (C : Ctx) (t : Nat) : Bool := (C.P.info? t).isSome && (C.P.underlying t).isSome
/-- it has a zero, and that is of so many single cells -/
def hasZero (C : Ctx) (t : Nat) : Bool := okT C t && (match C.P.info? t with | some i => i.zero.isSome && Nat.beq (len (cellsOf (zeroT C t))) i.size && allB oneCell (cellsOf (zeroT C t)) | none => false)
def isBoolT (C : Ctx) (t : Nat) : Bool := match C.P.underlying t with | some .bool => true | _ => false
def isSliceT (C : Ctx) (t : Nat) : Bool := match C.P.underlying t with | some (.slice _) => true | _ => false
def isStrSliceT (C : Ctx) (t : Nat) : Bool := match C.P.underlying t with | some (.slice _) | some .string => true | _ => false
def isMapT (C : Ctx) (t : Nat) : Bool := match C.P.underlying t with | some (.map _ _) => true | _ => false
def isConcreteT (C : Ctx) (t : Nat) : Bool := match C.P.underlying t with | some (.interface _) => false | some _ => true | none => false
def isByteT (C : Ctx) (t : Nat) : Bool := match C.P.underlying t with | some (.int .u8) => true | _ => false
def elemT (C : Ctx) (t : Nat) : Option Nat := match C.P.underlying t with | some (.slice e) => some e | _ => none
/-- the field's type and offset -/
def fieldOf (C : Ctx) (t f : Nat) : Option (Nat × Nat) :=
  match C.P.underlying t with
  | some (.struct fs) => match fs.toList[f]? with
    | some x => some (x.type, x.offset)
    | none => none
  | _ => none

/-! ### Operators -/
def intBits (op : BinOp) : IntKind → Int → Int → Int :=
  match op with
  | .and => fun k x y => k.wrap (BitVec.ofInt k.bits x &&& BitVec.ofInt k.bits y).toNat
  | .or => fun k x y => k.wrap (BitVec.ofInt k.bits x ||| BitVec.ofInt k.bits y).toNat
  | .xor => fun k x y => k.wrap (BitVec.ofInt k.bits x ^^^ BitVec.ofInt k.bits y).toNat
  | _ => fun k x y => k.wrap (BitVec.ofInt k.bits x &&& ~~~(BitVec.ofInt k.bits y)).toNat

/-- whole numbers: a, b their kinds -/
def intOp (op : BinOp) : IntKind → IntKind → Int → Int → (AVal → Res) → Res :=
  match op with
  | .add => fun a b m n k => chk (ikEq a b) "kind" (k (.int a (wrapA a (m + n))))
  | .sub => fun a b m n k => chk (ikEq a b) "kind" (k (.int a (wrapA a (m - n))))
  | .mul => fun a b m n k => chk (ikEq a b) "kind" (k (.int a (wrapA a (m * n))))
  | .quo => fun a b m n k => chk (ikEq a b && !(n == 0)) "quo" (k (.int a (wrapA a (m.tdiv n))))
  | .rem => fun a b m n k => chk (ikEq a b && !(n == 0)) "rem" (k (.int a (m.tmod n)))
  | .and => fun a b m n k => chk (ikEq a b) "kind" (k (.int a (intBits .and a m n)))
  | .or => fun a b m n k => chk (ikEq a b) "kind" (k (.int a (intBits .or a m n)))
  | .xor => fun a b m n k => chk (ikEq a b) "kind" (k (.int a (intBits .xor a m n)))
  | .andNot => fun a b m n k => chk (ikEq a b) "kind" (k (.int a (intBits .andNot a m n)))
  | .eql => fun a b m n k => chk (ikEq a b) "kind" (k (.bool (m == n)))
  | .neq => fun a b m n k => chk (ikEq a b) "kind" (k (.bool (m != n)))
  | .lss => fun a b m n k => chk (ikEq a b) "kind" (k (.bool (decide (m < n))))
  | .leq => fun a b m n k => chk (ikEq a b) "kind" (k (.bool (decide (m ≤ n))))
  | .gtr => fun a b m n k => chk (ikEq a b) "kind" (k (.bool (decide (m > n))))
  | .geq => fun a b m n k => chk (ikEq a b) "kind" (k (.bool (decide (m ≥ n))))
  | .shl => fun a _ m n k => chk (decide (0 ≤ n)) "shift" (k (.int a (wrapA a (m * 2 ^ (min n.toNat a.bits)))))
  | .shr => fun a _ m n k => chk (decide (0 ≤ n)) "shift" (k (.int a (m.fdiv (2 ^ (min n.toNat a.bits)))))

def strOp (op : BinOp) : List UInt8 → List UInt8 → (AVal → Res) → Res :=
  match op with
  | .add => fun a b k => chk (Nat.ble (len a + len b) 9223372036854775807) "long" (k (.str (app a b)))
  | .eql => fun a b k => k (.bool (a == b))
  | .neq => fun a b k => k (.bool (!(a == b)))
  | .lss => fun a b k => k (.bool (Op.bytesLess a b))
  | .leq => fun a b k => k (.bool (Op.bytesLess a b || a == b))
  | .gtr => fun a b k => k (.bool (!(Op.bytesLess a b || a == b)))
  | .geq => fun a b k => k (.bool (!(Op.bytesLess a b)))
  | _ => fun _ _ _ => Fail "strop"

/-- == and != of what is equal or not as b says -/
def eqOp (op : BinOp) : Bool → (AVal → Res) → Res :=
  match op with
  | .eql => fun b k => k (.bool b)
  | .neq => fun b k => k (.bool (!b))
  | _ => fun _ _ => Fail "eqop"
/-- a part of an aggregate, where there is one -/
def partA (C : Ctx) (t : Nat) (cs : List AVal) (off : Nat) : Option AVal :=
  cond (okT C t) (cond (isAggT C t) (some (.agg (cut cs off (sizeT C t)))) (nthO cs off)) none
def and2 (a b : Option Bool) : Option Bool := match a with | some a => (match b with | some b => some (a && b) | none => none) | none => none
def eq2 (eq : AVal → AVal → Option Bool) (a b : Option AVal) : Option Bool := match a with | some a => (match b with | some b => eq a b | none => none) | none => none
def eqFs (C : Ctx) (eq : Nat → AVal → AVal → Option Bool) (xs ys : List AVal) : List Field → Option Bool
  | [] => some true
  | f :: fs => cond (f.name == "_") (eqFs C eq xs ys fs) (and2 (eq2 (eq f.type) (partA C f.type xs f.offset) (partA C f.type ys f.offset)) (eqFs C eq xs ys fs))
def eqEs (C : Ctx) (eq : AVal → AVal → Option Bool) (e : Nat) (xs ys : List AVal) : Nat → Nat → Option Bool
  | 0, _ => some true
  | n + 1, i => and2 (eq2 eq (partA C e xs (i * sizeT C e)) (partA C e ys (i * sizeT C e))) (eqEs C eq e xs ys n (i + 1))
def eqAgg (x : AVal) (f : List AVal → List AVal → Option Bool) : AVal → Option Bool :=
  match x with
  | .agg xs => fun y => (match y with | .agg ys => f xs ys | _ => none)
  | _ => fun _ => none
def eqD (d : Option TypeDesc) : Ctx → (Nat → AVal → AVal → Option Bool) → Nat → AVal → AVal → Option Bool :=
  match d with
  | some .bool => fun _ _ _ x y => (match x with | .bool _ => cellEq x y | _ => none)
  | some (.int _) => fun _ _ _ x y => (match x with | .int _ _ => cellEq x y | _ => none)
  | some .string => fun _ _ _ x y => (match x with | .str _ => cellEq x y | _ => none)
  | some (.struct fs) => fun C eq t x y => cond (C.P.stoodInHeld t) none (eqAgg x (fun xs ys => eqFs C eq xs ys fs.toList) y)
  | some (.array n e) => fun C eq _ x y => cond (okT C e) (eqAgg x (fun xs ys => eqEs C (eq e) e xs ys n 0) y) none
  | _ => fun _ _ _ _ _ => none
/-- are two values of a type equal? (d: how deep it is looked) -/
def eqA (C : Ctx) : Nat → Nat → AVal → AVal → Option Bool
  | 0, _, _, _ => none
  | d + 1, t, x, y => eqD (C.P.underlying t) C (eqA C d) t x y
def aggEq (e : Option Bool) : BinOp → (AVal → Res) → Res :=
  match e with
  | some b => fun op k => eqOp op b k
  | none => fun _ _ => Fail "aggeq"

def binInt (y : AVal) : BinOp → IntKind → Int → (AVal → Res) → Res :=
  match y with
  | .int b n => fun op a m k => intOp op a b m n k
  | _ => fun _ _ _ _ => Fail "binop: int"
def binStr (y : AVal) : BinOp → List UInt8 → (AVal → Res) → Res :=
  match y with
  | .str b => fun op a k => strOp op a b k
  | _ => fun _ _ _ => Fail "binop: str"
def binBool (y : AVal) : BinOp → Bool → (AVal → Res) → Res :=
  match y with
  | .bool b => fun op a k => eqOp op (a == b) k
  | _ => fun _ _ _ => Fail "binop: bool"
def binNils (y : AVal) : BinOp → (AVal → Res) → Res :=
  match y with
  | .nils => fun op k => eqOp op true k
  | .slice .. => fun op k => eqOp op false k
  | .pslice .. => fun op k => eqOp op false k
  | _ => fun _ _ => Fail "binop: nil"
def binSlice (y : AVal) : BinOp → (AVal → Res) → Res :=
  match y with
  | .nils => fun op k => eqOp op false k
  | _ => fun _ _ => Fail "binop: slice"
def aBinOp (x : AVal) : Ctx → BinOp → Nat → AVal → (AVal → Res) → Res :=
  match x with
  | .int a m => fun _ op _ y k => binInt y op a m k
  | .str a => fun _ op _ y k => binStr y op a k
  | .bool a => fun C op t y k => chk (isBoolT C t) "boolt" (binBool y op a k)
  | .agg a => fun C op t y k => chk (!(C.P.eqGuardType C.P.depth t)) "aggeq" (aggEq (eqA C 20 t (.agg a) y) op k)
  | .nils => fun C op t y k => chk (isSliceT C t) "slt" (binNils y op k)
  | .slice .. => fun C op t y k => chk (isSliceT C t) "slt" (binSlice y op k)
  | .pslice .. => fun C op t y k => chk (isSliceT C t) "slt" (binSlice y op k)
  | _ => fun _ _ _ _ _ => Fail "binop"

def negV (x : AVal) : (AVal → Res) → Res := match x with | .int a n => fun k => k (.int a (wrapA a (0 - n))) | _ => fun _ => Fail "neg"
def notV (x : AVal) : (AVal → Res) → Res := match x with | .bool b => fun k => k (.bool (!b)) | _ => fun _ => Fail "not"
def xorV (x : AVal) : (AVal → Res) → Res := match x with | .int a n => fun k => k (.int a (intBits .xor a (cond a.signed (-1) a.max) n)) | _ => fun _ => Fail "xor"
def aUnOp (op : UnOp) : AVal → (AVal → Res) → Res :=
  match op with
  | .neg => negV
  | .xor => xorV
  | .not => notV
  | _ => fun _ _ => Fail "unop"

/-! ### Memory -/
def nthK (v : Option AVal) : (AVal → Res) → Res := match v with | some v => fun k => k v | none => fun _ => Fail "part"
/-- a part of an aggregate: cells or one cell -/
def partOf (C : Ctx) (t : Nat) (cs : List AVal) (off : Nat) (k : AVal → Res) : Res :=
  chk (okT C t) "part: type" (cond (isAggT C t) (k (.agg (cut cs off (sizeT C t)))) (nthK (nthO cs off) k))

def withCells (o : Option AObj) : (Nat → List AVal → Nat → Res) → Res :=
  match o with
  | some (.cells n row e) => fun k => k n row e
  | _ => fun _ => Fail "no cells"
def withMap (o : Option AObj) : (List (AVal × AVal × Nat) → Nat → Res) → Res :=
  match o with
  | some (.map es clock) => fun k => k es clock
  | _ => fun _ => Fail "no map"
def withLoop (o : Option AObj) : (ALoop → Res) → Res :=
  match o with
  | some (.loop l) => fun k => k l
  | _ => fun _ => Fail "no loop"

def aLoad (a : AVal) : Ctx → Heap → Nat → (AVal → Res) → Res :=
  match a with
  | .ptr b off => fun C σ t k => withCells (σ.get b) fun n row _ => chk (Nat.ble (off + sizeT C t) n) "load" (partOf C t row off k)
  | .eptr s _ f i c => fun C _ t k => chk (Nat.ble (c + sizeT C t) s) "load" (partOf C t (f i) c k)
  | _ => fun _ _ _ _ => Fail "load: pointer"

def aStore (a : AVal) : Ctx → Heap → Nat → AVal → (Heap → Res) → Res :=
  match a with
  | .ptr b off => fun C σ t v k => withCells (σ.get b) fun n row e =>
      chk (Nat.blt e lockBit) "store: locked" <| chk (okT C t && Nat.beq (len (cellsOf v)) (sizeT C t) && Nat.ble (off + sizeT C t) n && allB oneCell (cellsOf v)) "store" (k (σ.put b (some (.cells n (setMany row off (cellsOf v)) e))))
  | _ => fun _ _ _ _ _ => Fail "store: pointer"

def fieldAt (a : AVal) : Nat → (AVal → Res) → Res :=
  match a with
  | .ptr b o => fun off k => k (.ptr b (o + off))
  | .eptr s n g i c => fun off k => k (.eptr s n g i (c + off))
  | _ => fun _ _ => Fail "fieldaddr"
def aFieldAddr (f : Option (Nat × Nat)) : Ctx → AVal → (AVal → Res) → Res :=
  match f with
  | some (ft, off) => fun C a k => chk (okT C ft && !(Nat.beq (sizeT C ft) 0)) "fieldaddr0" (fieldAt a off k)
  | none => fun _ _ _ => Fail "fieldaddr: field"

/-- 0 ≤ i < n -/
def inB (i : Int) (n : Nat) : Bool := decide (0 ≤ i) && decide (i < (n : Int))

def withInt (v : AVal) : (Int → Res) → Res := match v with | .int _ i => fun k => k i | _ => fun _ => Fail "int expected"

def ixArr (x : AVal) : Nat → Nat → Int → (AVal → Res) → Res :=
  match x with
  | .ptr b off => fun n z i k => chk (inB i n) "index" (k (.ptr b (off + i.toNat * z)))
  | .eptr s m f j c => fun n z i k => chk (inB i n) "index" (k (.eptr s m f j (c + i.toNat * z)))
  | _ => fun _ _ _ _ => Fail "indexaddr"
def ixSlc (x : AVal) : Nat → Int → (AVal → Res) → Res :=
  match x with
  | .slice b off s n _ _ => fun z i k => chk (Nat.beq s z && inB i n) "index" (k (.ptr b (off + i.toNat * s)))
  | .pslice s n f _ _ => fun z i k => chk (Nat.beq s z && inB i n) "index" (k (.eptr s n f i.toNat 0))
  | _ => fun _ _ _ => Fail "indexaddr"
def aIndexAddr (d : Option TypeDesc) : Ctx → AVal → Int → (AVal → Res) → Res :=
  match d with
  | some (.array n e) => fun C x i k => chk (okT C e) "indexaddr: type" (ixArr x n (sizeT C e) i k)
  | some (.slice e) => fun C x i k => chk (okT C e) "indexaddr: type" (ixSlc x (sizeT C e) i k)
  | _ => fun _ _ _ _ => Fail "indexaddr: type"

def byteK (u : Option UInt8) : (AVal → Res) → Res := match u with | some u => fun k => k (.int .u8 (u.toNat : Int)) | none => fun _ => Fail "sindex"
def ixStr (x : AVal) : Int → (AVal → Res) → Res := match x with | .str s => fun i k => chk (inB i (len s)) "sindex" (byteK (nthO s i.toNat) k) | _ => fun _ _ => Fail "index"
def ixAgg (x : AVal) : Ctx → Nat → Nat → Int → (AVal → Res) → Res :=
  match x with
  | .agg cs => fun C n e i k => chk (inB i n) "index" (partOf C e cs (i.toNat * sizeT C e) k)
  | _ => fun _ _ _ _ _ => Fail "index"
def aIndex (d : Option TypeDesc) : Ctx → AVal → Int → (AVal → Res) → Res :=
  match d with
  | some (.array n e) => fun C x i k => ixAgg x C n e i k
  | some .string => fun _ x i k => ixStr x i k
  | _ => fun _ _ _ _ => Fail "index: type"

def aBound (x : Option AVal) : Int → (Int → Res) → Res :=
  match x with
  | none => fun d k => k d
  | some v => fun _ k => withInt v k

/-- 0 ≤ l ≤ h ≤ m ≤ c -/
def bnds (l h m : Int) (c : Nat) : Bool := decide (0 ≤ l) && decide (l ≤ h) && decide (h ≤ m) && decide (m ≤ (c : Int))

def slcHeap (b off s c : Nat) (ex : Bool) (l h m : Int) (k : AVal → Res) : Res :=
  chk (bnds l h m c) "slice" <|
  cond (decide (l < m)) (k (.slice b (off + l.toNat * s) s (h.toNat - l.toNat) (m.toNat - l.toNat) ex))
    (cond ex (k (.slice b off s 0 0 true)) (k (.pslice s 0 (fun _ => []) 0 false)))
def slcPure (s n c : Nat) (f : Nat → List AVal) (ex : Bool) (l h m : Int) (k : AVal → Res) : Res :=
  chk (bnds l h m c && decide (h ≤ (n : Int))) "slice" (k (.pslice s (h.toNat - l.toNat) (fun j => f (l.toNat + j)) (m.toNat - l.toNat) ex))
def slcStr (x : AVal) : Option AVal → Option AVal → Int → (AVal → Res) → Res :=
  match x with
  | .str s => fun hi mx l k => aBound hi (len s) fun h => chk (!mx.isSome && bnds l h h (len s)) "strslice" (k (.str (cutB s l.toNat (h.toNat - l.toNat))))
  | _ => fun _ _ _ _ => Fail "slice: string"
def slcSlc (x : AVal) : Nat → Option AVal → Option AVal → Int → (AVal → Res) → Res :=
  match x with
  | .slice b off s n c ex => fun z hi mx l k => aBound hi n fun h => aBound mx c fun m => chk (Nat.beq s z && (!mx.isSome || hi.isSome)) "slice" (slcHeap b off s c (mx.isSome || ex) l h m k)
  | .pslice s n f c ex => fun z hi mx l k => aBound hi n fun h => aBound mx c fun m => chk (Nat.beq s z && (!mx.isSome || hi.isSome)) "slice" (slcPure s n c f (mx.isSome || ex) l h m k)
  | .nils => fun _ hi mx l k => aBound hi 0 fun h => aBound mx 0 fun m => chk (l == 0 && h == 0 && m == 0 && (!mx.isSome || hi.isSome)) "nilslice" (k .nils)
  | _ => fun _ _ _ _ _ => Fail "slice"
def slcArr (x : AVal) : Nat → Nat → Option AVal → Option AVal → Int → (AVal → Res) → Res :=
  match x with
  | .ptr b off => fun n z hi mx l k => aBound hi n fun h => aBound mx n fun m => chk (!mx.isSome || hi.isSome) "arrslice" (slcHeap b off z n true l h m k)
  | _ => fun _ _ _ _ _ _ => Fail "slice: array"
def aSlice (d : Option TypeDesc) : Ctx → AVal → Option AVal → Option AVal → Option AVal → (AVal → Res) → Res :=
  match d with
  | some .string => fun _ x lo hi mx k => aBound lo 0 fun l => slcStr x hi mx l k
  | some (.slice e) => fun C x lo hi mx k => chk (okT C e) "slice: type" (aBound lo 0 fun l => slcSlc x (sizeT C e) hi mx l k)
  | some (.array n e) => fun C x lo hi mx k => chk (okT C e) "slice: type" (aBound lo 0 fun l => slcArr x n (sizeT C e) hi mx l k)
  | _ => fun _ _ _ _ _ _ => Fail "slice: type"

/-- the cells of a slice or string that is read -/
def readCells (x : AVal) : Heap → (Nat → List AVal → Res) → Res :=
  match x with
  | .nils => fun _ k => k 0 []
  | .slice b off s n _ _ => fun σ k => withCells (σ.get b) fun z row _ => chk (Nat.ble (off + n * s) z) "read" (k n (cut row off (n * s)))
  | .pslice _ n f _ _ => fun _ k => k n (gather f n 0)
  | .str s => fun _ k => k (len s) (mapL (fun b => .int .u8 (b.toNat : Int)) s)
  | _ => fun _ _ => Fail "read"

def okSize (x : AVal) : Nat → Bool :=
  match x with
  | .slice _ _ s' _ _ _ => fun s => Nat.beq s s'
  | .pslice s' .. => fun s => Nat.beq s s'
  | .nils => fun _ => true
  | .str _ => fun s => Nat.beq s 1
  | _ => fun _ => false

def maxBytes : Nat := 70368744177664

def newSlice (C : Ctx) (σ : Heap) (z n e : Nat) (cells : List AVal) (k : AVal → Heap → Res) : Res :=
  chk (Nat.ble (n * bytesT C e) maxBytes && Nat.ble (bytesT C e) 65536 && Nat.blt 0 (bytesT C e)) "append: long" (k (.slice σ.next 0 z n n false) (σ.new (.cells (n * z) cells e)))

def appHeap (C : Ctx) (σ : Heap) (e z b off l cap : Nat) (ex : Bool) (n : Nat) (new : List AVal) (k : AVal → Heap → Res) : Res :=
  withCells (σ.get b) fun zz row e' =>
    cond (Nat.ble (l + n) cap)
      (chk (Nat.blt e' lockBit) "append: locked" <| chk (Nat.ble (off + (l + n) * z) zz) "append: row" (k (.slice b off z (l + n) cap ex) (σ.put b (some (.cells zz (setMany row (off + l * z) new) e')))))
      (chk (Nat.ble (off + l * z) zz) "append: row" <|
        cond ex (newSlice C σ z (l + n) e (app (cut row off (l * z)) new) k)
          (chk (Nat.blt e' lockBit) "append: locked" <| chk (Nat.beq off 0) "append: offset" (newSlice C (σ.put b none) z (l + n) e (app (cut row 0 (l * z)) new) k)))

def appTo (s : AVal) : Ctx → Heap → Nat → Nat → Nat → List AVal → (AVal → Heap → Res) → Res :=
  match s with
  | .nils => fun C σ e z n new k => cond (Nat.beq n 0) (k .nils σ) (newSlice C σ z n e new k)
  | .slice b off _ l cap ex => fun C σ e z n new k => appHeap C σ e z b off l cap ex n new k
  | .pslice s' l f cap ex => fun C σ e z n new k =>
      cond (Nat.beq n 0) (k (.pslice s' l f cap ex) σ)
        (chk (ex && Nat.blt cap (l + n)) "append: read only" (newSlice C σ z (l + n) e (app (gather f l 0) new) k))
  | _ => fun _ _ _ _ _ _ _ => Fail "append"

def aAppend (e : Option Nat) : Ctx → Heap → AVal → AVal → (AVal → Heap → Res) → Res :=
  match e with
  | some e => fun C σ s x k =>
    chk (okSize s (sizeT C e) && okSize x (sizeT C e) && hasZero C e && !(Nat.beq (sizeT C e) 0)) "append: sizes" <|
    readCells x σ fun n new => appTo s C σ e (sizeT C e) n new k
  | none => fun _ _ _ _ _ => Fail "append: type"

def copyTo (dst : AVal) : Heap → Nat → List AVal → (AVal → Heap → Res) → Res :=
  match dst with
  | .nils => fun σ _ _ k => k (.int .i64 0) σ
  | .slice b off s l _ _ => fun σ n cs k => withCells (σ.get b) fun z row e' =>
      chk (Nat.blt e' lockBit) "copy: locked" <| chk (Nat.ble (off + Nat.min n l * s) z) "copy: row" (k (.int .i64 (Nat.min n l : Nat)) (σ.put b (some (.cells z (setMany row off (cut cs 0 (Nat.min n l * s))) e'))))
  | .pslice _ l _ _ _ => fun σ n _ k => chk (Nat.beq (Nat.min n l) 0) "copy: read only" (k (.int .i64 0) σ)
  | _ => fun _ _ _ _ => Fail "copy"
def aCopy (e : Option Nat) : Ctx → Heap → AVal → AVal → (AVal → Heap → Res) → Res :=
  match e with
  | some e => fun C σ dst src k =>
    chk (okT C e && okSize dst (sizeT C e) && okSize src (sizeT C e)) "copy: sizes" (readCells src σ fun n cs => copyTo dst σ n cs k)
  | none => fun _ _ _ _ _ => Fail "copy: type"

def aMakeSlice (e : Option Nat) : Ctx → Heap → AVal → AVal → (AVal → Heap → Res) → Res :=
  match e with
  | some e => fun C σ ln cap k => withInt ln fun l => withInt cap fun c =>
    chk (decide (0 ≤ l) && decide (l ≤ c) && Nat.ble (c.toNat * bytesT C e) maxBytes && Nat.ble c.toNat maxBytes && hasZero C e && !(Nat.beq (sizeT C e) 0)) "make" <|
    k (.slice σ.next 0 (sizeT C e) l.toNat c.toNat true) (σ.new (.cells (c.toNat * sizeT C e) (repl c.toNat (cellsOf (zeroT C e))) e))
  | none => fun _ _ _ _ _ => Fail "make"

def byteOfCell (v : AVal) : Option UInt8 := match v with | .int .u8 n => some (UInt8.ofNat n.toNat) | _ => none
def bytesOfCells (l : List AVal) : Option (List UInt8) :=
  List.rec (motive := fun _ => Option (List UInt8)) (some []) (fun v _ ih => match byteOfCell v with
    | none => none
    | some b => match ih with
      | none => none
      | some l => some (b :: l)) l
def bytesK (l : Option (List UInt8)) : (AVal → Res) → Res := match l with | some l => fun k => k (.str l) | none => fun _ => Fail "convert: bytes"

def cvInt (x : AVal) : IntKind → (AVal → Res) → Res := match x with | .int _ n => fun a k => k (.int a (wrapA a n)) | _ => fun _ _ => Fail "convert: int"
def cvStr (x : AVal) : (AVal → Res) → Res := match x with | .str s => fun k => k (.str s) | _ => fun _ => Fail "convert: str"
def cvBytes (x : AVal) : Heap → Nat → (AVal → Heap → Res) → Res :=
  match x with
  | .str s => fun σ e k => chk (Nat.ble (len s) maxBytes) "convert: long" (k (.slice σ.next 0 1 (len s) (len s) false) (σ.new (.cells (len s) (mapL (fun b => .int .u8 (b.toNat : Int)) s) e)))
  | _ => fun _ _ _ => Fail "convert: bytes"
def cvFromStr (d : Option TypeDesc) : Ctx → Heap → AVal → (AVal → Heap → Res) → Res :=
  match d with
  | some .string => fun _ σ x k => cvStr x fun v => k v σ
  | some (.slice e) => fun C σ x k => chk (isByteT C e) "convert: runes" (cvBytes x σ e k)
  | _ => fun _ _ _ _ => Fail "convert: from string"
def cvRune (x : AVal) : (AVal → Res) → Res :=
  match x with
  | .int _ n => fun k => chk (decide (0 ≤ n) && decide (n < 128)) "convert: rune" (k (.str [UInt8.ofNat n.toNat]))
  | _ => fun _ => Fail "convert: rune"
def cvFromInt (d : Option TypeDesc) : Heap → AVal → (AVal → Heap → Res) → Res :=
  match d with
  | some (.int a) => fun σ x k => cvInt x a fun v => k v σ
  | some .string => fun σ x k => cvRune x fun v => k v σ
  | _ => fun _ _ _ => Fail "convert: from int"
def cvFromSlice (d : Option TypeDesc) : Heap → AVal → (AVal → Heap → Res) → Res :=
  match d with
  | some .string => fun σ x k => chk (okSize x 1) "convert: slice" (readCells x σ fun _ cs => bytesK (bytesOfCells cs) fun v => k v σ)
  | _ => fun _ _ _ => Fail "convert: from slice"
def aConvert (s : Option TypeDesc) : Ctx → Heap → Nat → AVal → (AVal → Heap → Res) → Res :=
  match s with
  | some (.int _) => fun C σ dst x k => cvFromInt (C.P.underlying dst) σ x k
  | some .string => fun C σ dst x k => cvFromStr (C.P.underlying dst) C σ x k
  | some (.slice e) => fun C σ dst x k => chk (isByteT C e) "convert: runes" (cvFromSlice (C.P.underlying dst) σ x k)
  | _ => fun _ _ _ _ _ => Fail "convert"

def evalParts (ps : List (Nat × Operand)) : Ctx → Env → List (Nat × AVal) :=
  List.rec (motive := fun _ => Ctx → Env → List (Nat × AVal)) (fun _ _ => []) (fun p _ ih C ρ => (p.1, evalOp p.2 C ρ) :: ih C ρ) ps

def isUnk (v : AVal) : Bool := match v with | .unk => true | _ => false
/-- the parts laid over the cells, one by one -/
def fillSlow (place : Nat → Option (Nat × Nat)) (n : Nat) : List AVal → List (Nat × AVal) → Option (List AVal)
  | cells, [] => some cells
  | cells, (i, v) :: rest =>
    match place i with
    | none => none
    | some (off, size) => bif Nat.beq (len (cellsOf v)) size && Nat.ble (off + size) n then fillSlow place n (setMany cells off (cellsOf v)) rest else none
/-- parts that stand in order, from pos on -/
def fillFast (place : Nat → Option (Nat × Nat)) (n : Nat) : Nat → List AVal → List (Nat × AVal) → Option (List AVal)
  | _, cells, [] => some cells
  | pos, cells, (i, v) :: rest =>
    match place i with
    | none => none
    | some (off, size) => bif Nat.beq (len (cellsOf v)) size && Nat.ble (off + size) n && Nat.ble pos off then
        match fillFast place n (off + size) (dropA cells (off + size - pos)) rest with
        | some l => some (app (cut cells 0 (off - pos)) (app (cellsOf v) l))
        | none => none
      else none
def inOrder (place : Nat → Option (Nat × Nat)) : Nat → List (Nat × AVal) → Bool
  | _, [] => true
  | pos, (i, _) :: rest => match place i with
    | none => false
    | some (off, size) => Nat.ble pos off && inOrder place (off + size) rest
def fillA (place : Nat → Option (Nat × Nat)) (n : Nat) (cells : List AVal) (ps : List (Nat × AVal)) : Option (List AVal) :=
  cond (allB (fun p => !isUnk p.2) ps) (cond (inOrder place 0 ps) (fillFast place n 0 cells ps) (fillSlow place n cells ps)) none

def placeS (C : Ctx) (fs : List Field) (i : Nat) : Option (Nat × Nat) := match fs[i]? with | some f => some (f.offset, sizeT C f.type) | none => none
def aggK (l : Option (List AVal)) : (AVal → Res) → Res := match l with | some cs => fun k => k (.agg cs) | none => fun _ => Fail "build"
def aBuild (d : Option TypeDesc) : Ctx → Nat → List (Nat × AVal) → (AVal → Res) → Res :=
  match d with
  | some (.struct fs) => fun C t ps k => chk (hasZero C t && allB (fun f => okT C f.type) fs.toList) "build" (aggK (fillA (placeS C fs.toList) (sizeT C t) (cellsOf (zeroT C t)) ps) k)
  | some (.array _ e) => fun C t ps k => chk (hasZero C t && okT C e) "build" (aggK (fillA (fun i => some (i * sizeT C e, sizeT C e)) (sizeT C t) (cellsOf (zeroT C t)) ps) k)
  | _ => fun _ _ _ _ => Fail "build"

def rowK (l : Option (List AVal)) : (List AVal → Res) → Res := match l with | some cs => fun k => k cs | none => fun _ => Fail "buildslice"
def aBuildSlice (e : Option Nat) : Ctx → Heap → Nat → List (Nat × AVal) → (AVal → Heap → Res) → Res :=
  match e with
  | some e => fun C σ ln ps k =>
    chk (hasZero C e && Nat.ble (ln * sizeT C e) 16777216 && !(Nat.beq (sizeT C e) 0)) "buildslice" <|
    rowK (fillA (fun i => some (i * sizeT C e, sizeT C e)) (ln * sizeT C e) (repl ln (cellsOf (zeroT C e))) ps) fun cs =>
      chk (allB oneCell cs) "buildslice: cells" (k (.slice σ.next 0 (sizeT C e) ln ln true) (σ.new (.cells (ln * sizeT C e) cs e)))
  | none => fun _ _ _ _ _ => Fail "buildslice"

/-! ### Maps -/
/-- a key's place among a map's entries -/
def findA (key : AVal) : List (AVal × AVal × Nat) → Nat → Option (Option (Nat × AVal))
  | [], _ => some none
  | (q, v, _) :: es, i =>
    match cellEq key q with
    | some true => some (some (i, v))
    | some false => findA key es (i + 1)
    | none => none
def isIntV (v : AVal) : Bool := match v with | .int _ _ => true | _ => false
def isStrV (v : AVal) : Bool := match v with | .str _ => true | _ => false
def keyOk (d : Option TypeDesc) : AVal → Bool :=
  match d with
  | some (.int _) => fun v => isIntV v
  | some .string => fun v => isStrV v
  | _ => fun _ => false
def setEntry : List (AVal × AVal × Nat) → Nat → AVal → AVal → List (AVal × AVal × Nat)
  | [], _, _, _ => []
  | (_, _, b) :: r, 0, key, v => (key, v, b) :: r
  | e :: r, n + 1, key, v => e :: setEntry r n key v
def withMapV (m : AVal) : Heap → (Nat → List (AVal × AVal × Nat) → Nat → Res) → Res :=
  match m with
  | .map b => fun σ k => withMap (σ.get b) fun es clock => k b es clock
  | _ => fun _ _ => Fail "map expected"
def putIn (f : Option (Option (Nat × AVal))) : Heap → Nat → List (AVal × AVal × Nat) → Nat → AVal → AVal → (Heap → Res) → Res :=
  match f with
  | some (some (i, _)) => fun σ b es clock key v k => k (σ.put b (some (.map (setEntry es i key v) clock)))
  | some none => fun σ b es clock key v k => k (σ.put b (some (.map (app es [(key, v, clock)]) (Nat.succ clock))))
  | none => fun _ _ _ _ _ _ _ => Fail "mapupdate: find"
def aMapUpdate (d : Option TypeDesc) : Ctx → Heap → AVal → AVal → AVal → (Heap → Res) → Res :=
  match d with
  | some (.map kt _) => fun C σ m key v k => withMapV m σ fun b es clock => chk (keyOk (C.P.underlying kt) key) "mapupdate: key" (putIn (findA key es 0) σ b es clock key v k)
  | _ => fun _ _ _ _ _ _ => Fail "mapupdate"
def lookIn (f : Option (Option (Nat × AVal))) : AVal → Bool → (AVal → Res) → Res :=
  match f with
  | some (some (_, v)) => fun _ ok k => k (cond ok (.tuple [v, .bool true]) v)
  | some none => fun z ok k => k (cond ok (.tuple [z, .bool false]) z)
  | none => fun _ _ _ => Fail "lookup: find"
def lookMap (m : AVal) : Heap → AVal → AVal → Bool → (AVal → Res) → Res :=
  match m with
  | .nilm => fun _ _ z ok k => lookIn (some none) z ok k
  | .map b => fun σ key z ok k => withMap (σ.get b) fun es _ => lookIn (findA key es 0) z ok k
  | _ => fun _ _ _ _ _ => Fail "lookup"
def aLookup (d : Option TypeDesc) : Ctx → Heap → AVal → AVal → Bool → (AVal → Res) → Res :=
  match d with
  | some (.map kt e) => fun C σ m key ok k => chk (keyOk (C.P.underlying kt) key && hasZero C e) "lookup: key" (lookMap m σ key (zeroT C e) ok k)
  | _ => fun _ _ _ _ _ _ => Fail "lookup: type"

def lenSlc (x : AVal) : (AVal → Res) → Res :=
  match x with
  | .nils => fun k => k (.int .i64 0)
  | .slice _ _ _ n _ _ => fun k => k (.int .i64 n)
  | .pslice _ n _ _ _ => fun k => k (.int .i64 n)
  | _ => fun _ => Fail "len: slice"
def lenStr (x : AVal) : (AVal → Res) → Res := match x with | .str s => fun k => k (.int .i64 (len s)) | _ => fun _ => Fail "len: string"
def lenMap (x : AVal) : Heap → (AVal → Res) → Res :=
  match x with
  | .nilm => fun _ k => k (.int .i64 0)
  | .map b => fun σ k => withMap (σ.get b) fun es _ => k (.int .i64 (len es))
  | _ => fun _ _ => Fail "len: map"
def aLen (d : Option TypeDesc) : Heap → AVal → (AVal → Res) → Res :=
  match d with
  | some .string => fun _ x k => lenStr x k
  | some (.array n _) => fun _ _ k => k (.int .i64 n)
  | some (.slice _) => fun _ x k => lenSlc x k
  | some (.map _ _) => fun σ x k => lenMap x σ k
  | _ => fun _ _ _ => Fail "len"

def pickInt (mx : Bool) (m n : Int) : Int := cond mx (cond (decide (n > m)) n m) (cond (decide (n < m)) n m)
def aMinMax (r : List AVal) : Bool → IntKind → Int → (AVal → Res) → Res :=
  List.rec (motive := fun _ => Bool → IntKind → Int → (AVal → Res) → Res) (fun _ a m k => k (.int a m))
    (fun y _ ih mx a m k => withInt y fun n => ih mx a (pickInt mx m n) k) r
def minMax (l : List AVal) : Bool → (AVal → Res) → Res :=
  match l with
  | .int a m :: r => fun mx k => aMinMax r mx a m k
  | _ => fun _ _ => Fail "minmax"

def aExtract (x : AVal) : Nat → (AVal → Res) → Res :=
  match x with
  | .tuple vs => fun i k => nthK (nthO vs i) k
  | _ => fun _ _ => Fail "extract"
def aTypeAssert (x : AVal) : Ctx → Nat → Bool → (AVal → Res) → Res :=
  match x with
  | .iface t v => fun C a ok k =>
    cond (Nat.beq t a) (k (cond ok (.tuple [v, .bool true]) v)) (chk (ok && hasZero C a) "typeassert: fails" (k (.tuple [zeroT C a, .bool false])))
  | .nilIface => fun C a ok k => chk (ok && hasZero C a) "typeassert: fails" (k (.tuple [zeroT C a, .bool false]))
  | _ => fun _ _ _ _ => Fail "typeassert"

/-! ### Operations -/
/-- What an operation comes to. -/
inductive ANext where
  | value (v : AVal) (σ : Heap)
  | skip (σ : Heap)
  | enter (f : Nat) (args : List AVal)
  | round (b : Nat) (args : List AVal)

def fnOk (C : Ctx) (f : Nat) : Bool :=
  match C.P.funcs[f]? with
  | some fn => fn.body.isSome && !(fn.name == "runtime.NumGoroutine")
  | none => false

def opPick (c : AVal) : AVal → AVal → Heap → (ANext → Res) → Res :=
  match c with
  | .bool t => fun a b σ k => k (.value (cond t a b) σ)
  | _ => fun _ _ _ _ => Fail "pick"
def opNilCheck (x : AVal) : Heap → (ANext → Res) → Res :=
  match x with
  | .ptr b off => fun σ k => k (.value (.ptr b off) σ)
  | .eptr s n f i c => fun σ k => k (.value (.eptr s n f i c) σ)
  | .func f cap => fun σ k => k (.value (.func f cap) σ)
  | _ => fun _ _ => Fail "nilcheck"
def fieldV (x : AVal) : Ctx → Nat → Nat → (AVal → Res) → Res :=
  match x with
  | .agg cs => fun C ft off k => chk (!(isAggT C ft) || Nat.ble (off + sizeT C ft) (len cs)) "field" (partOf C ft cs off k)
  | _ => fun _ _ _ _ => Fail "field"
def opField (f : Option (Nat × Nat)) : Ctx → AVal → (AVal → Res) → Res :=
  match f with
  | some (ft, off) => fun C x k => fieldV x C ft off k
  | none => fun _ _ _ => Fail "field"
def rangeStr (x : AVal) : Heap → (ANext → Res) → Res :=
  match x with
  | .str s => fun σ k => k (.value (.ptr σ.next 0) (σ.new (.striter s 0)))
  | _ => fun _ _ => Fail "range"
def opRange (d : Option TypeDesc) : Heap → AVal → (ANext → Res) → Res :=
  match d with
  | some .string => fun σ x k => rangeStr x σ k
  | _ => fun _ _ _ => Fail "range"
/-- the letter at a place of a text, and its width -/
def asciiOr (b : Option UInt8) : List UInt8 → Nat → Nat × Nat :=
  match b with
  | some b => fun s pos => cond (Nat.blt b.toNat 128) (b.toNat, 1) (Utf8.decode ⟨s.toArray⟩ pos)
  | none => fun s pos => Utf8.decode ⟨s.toArray⟩ pos
def decodeA (s : List UInt8) (pos : Nat) : Nat × Nat := asciiOr (nthO s pos) s pos
def nextStr (o : Option AObj) : Heap → Nat → (ANext → Res) → Res :=
  match o with
  | some (.striter s pos) => fun σ b k =>
    cond (Nat.blt pos (len s))
      (k (.value (.tuple [.bool true, .int .i64 pos, .int .i32 (decodeA s pos).1]) (σ.put b (some (.striter s (pos + (decodeA s pos).2))))))
      (k (.value (.tuple [.bool false]) σ))
  | _ => fun _ _ _ => Fail "next: block"
def opNext (x : AVal) : Heap → (ANext → Res) → Res :=
  match x with
  | .ptr b off => fun σ k => chk (Nat.beq off 0) "next" (nextStr (σ.get b) σ b k)
  | _ => fun _ _ => Fail "next"
def callFn (f : AFn) : Ctx → List AVal → List AVal → (ANext → Res) → Res :=
  match f with
  | .func g => fun C cap args k => chk (fnOk C g) "call: no body" (k (.enter g (app args cap)))
  | .yield b => fun _ _ args k => k (.round b args)
def opCallV (f : AVal) : Ctx → List AVal → (ANext → Res) → Res :=
  match f with
  | .func f cap => fun C args k => callFn f C cap args k
  | _ => fun _ _ _ => Fail "call: value"
def opLenX (args : List AVal) : Ctx → Heap → Nat → (ANext → Res) → Res :=
  match args with
  | x :: _ => fun C σ t k => aLen (C.P.underlying t) σ x fun v => k (.value v σ)
  | [] => fun _ _ _ _ => Fail "len"
def opLen (ts : List Nat) : Ctx → Heap → List AVal → (ANext → Res) → Res :=
  match ts with
  | t :: _ => fun C σ args k => opLenX args C σ t k
  | [] => fun _ _ _ _ => Fail "len"
def opAppend (ts : List Nat) : Ctx → Heap → List AVal → (ANext → Res) → Res :=
  match ts with
  | [t, u] => fun C σ args k => chk (isStrSliceT C u && Nat.beq (len args) 2) "append: second" (aAppend (elemT C t) C σ (nthD args 0) (nthD args 1) fun v σ' => k (.value v σ'))
  | _ => fun _ _ _ _ => Fail "append"
def opCopy (ts : List Nat) : Ctx → Heap → List AVal → (ANext → Res) → Res :=
  match ts with
  | t :: _ => fun C σ args k => chk (Nat.beq (len args) 2) "copy" (aCopy (elemT C t) C σ (nthD args 0) (nthD args 1) fun v σ' => k (.value v σ'))
  | [] => fun _ _ _ _ => Fail "copy"
def opBuiltin (b : Builtin) : Ctx → Heap → List Nat → List AVal → (ANext → Res) → Res :=
  match b with
  | .len => fun C σ ts args k => opLen ts C σ args k
  | .append => fun C σ ts args k => opAppend ts C σ args k
  | .copy => fun C σ ts args k => opCopy ts C σ args k
  | .min => fun _ σ _ args k => minMax args false fun v => k (.value v σ)
  | .max => fun _ σ _ args k => minMax args true fun v => k (.value v σ)
  | _ => fun _ _ _ _ _ => Fail "builtin"
def opCall (c : Callee) : Ctx → Heap → Env → List Nat → List Operand → (ANext → Res) → Res :=
  match c with
  | .value f => fun C _ ρ _ args k => opCallV (evalOp f C ρ) C (evalOps args C ρ) k
  | .builtin b => fun C σ ρ ts args k => opBuiltin b C σ ts (evalOps args C ρ) k
  | .invoke _ _ => fun _ _ _ _ _ _ => Fail "invoke"
def opMakeFunc (fn : Fn) : Heap → List Operand → List AVal → (ANext → Res) → Res :=
  match fn with
  | .func f => fun σ first cap k => chk first.isEmpty "makefunc" (k (.value (.func (.func f) cap) σ))
  | _ => fun _ _ _ _ => Fail "makefunc"
def opMakeMap (r : Option Operand) : Ctx → Heap → Nat → (ANext → Res) → Res :=
  match r with
  | none => fun C σ t k => chk (isMapT C t) "makemap" (k (.value (.map σ.next) (σ.new (.map [] 0))))
  | some _ => fun _ _ _ _ => Fail "makemap"

def aOper (o : Op) : Ctx → Heap → Env → (ANext → Res) → Res :=
  match o with
  | .move x => fun C σ ρ k => k (.value (evalOp x C ρ) σ)
  | .assign x => fun C σ ρ k => k (.value (evalOp x C ρ) σ)
  | .pick c a b => fun C σ ρ k => opPick (evalOp c C ρ) (evalOp a C ρ) (evalOp b C ρ) σ k
  | .alloc e => fun C σ _ k => chk (hasZero C e) "alloc" (k (.value (.ptr σ.next 0) (σ.new (.cells (sizeT C e) (cellsOf (zeroT C e)) e))))
  | .box e x => fun C σ ρ k => chk (allB oneCell (cellsOf (evalOp x C ρ))) "box" (k (.value (.ptr σ.next 0) (σ.new (.cells (len (cellsOf (evalOp x C ρ))) (cellsOf (evalOp x C ρ)) e))))
  | .build t ps => fun C σ ρ k => aBuild (C.P.underlying t) C t (evalParts ps.toList C ρ) fun v => k (.value v σ)
  | .buildSlice t l ps => fun C σ ρ k => aBuildSlice (elemT C t) C σ l (evalParts ps.toList C ρ) fun v σ' => k (.value v σ')
  | .load t a => fun C σ ρ k => aLoad (evalOp a C ρ) C σ t fun v => k (.value v σ)
  | .store t a x => fun C σ ρ k => aStore (evalOp a C ρ) C σ t (evalOp x C ρ) fun σ' => k (.skip σ')
  | .nilCheck x => fun C σ ρ k => opNilCheck (evalOp x C ρ) σ k
  | .binOp op t x y _ => fun C σ ρ k => aBinOp (evalOp x C ρ) C op t (evalOp y C ρ) fun v => k (.value v σ)
  | .unOp op _ x => fun C σ ρ k => aUnOp op (evalOp x C ρ) fun v => k (.value v σ)
  | .convert s d x => fun C σ ρ k => aConvert (C.P.underlying s) C σ d (evalOp x C ρ) fun v σ' => k (.value v σ')
  | .makeInterface t x => fun C σ ρ k => chk (isConcreteT C t) "iface" (k (.value (.iface t (evalOp x C ρ)) σ))
  | .makeFunc fn first cap => fun C σ ρ k => opMakeFunc fn σ first.toList (evalOps cap.toList C ρ) k
  | .makeMap t r => fun C σ _ k => opMakeMap r C σ t k
  | .makeSlice t l c => fun C σ ρ k => aMakeSlice (elemT C t) C σ (evalOp l C ρ) (evalOp c C ρ) fun v σ' => k (.value v σ')
  | .slice t x lo hi mx => fun C σ ρ k => aSlice (C.P.underlying t) C (evalOp x C ρ) (optV lo C ρ) (optV hi C ρ) (optV mx C ρ) fun v => k (.value v σ)
  | .fieldAddr t x f => fun C σ ρ k => aFieldAddr (fieldOf C t f) C (evalOp x C ρ) fun v => k (.value v σ)
  | .field t x f => fun C σ ρ k => opField (fieldOf C t f) C (evalOp x C ρ) fun v => k (.value v σ)
  | .indexAddr t x i => fun C σ ρ k => withInt (evalOp i C ρ) fun i => aIndexAddr (C.P.underlying t) C (evalOp x C ρ) i fun v => k (.value v σ)
  | .index t x i => fun C σ ρ k => withInt (evalOp i C ρ) fun i => aIndex (C.P.underlying t) C (evalOp x C ρ) i fun v => k (.value v σ)
  | .lookup t x i ok => fun C σ ρ k => aLookup (C.P.underlying t) C σ (evalOp x C ρ) (evalOp i C ρ) ok fun v => k (.value v σ)
  | .mapUpdate t m i x => fun C σ ρ k => aMapUpdate (C.P.underlying t) C σ (evalOp m C ρ) (evalOp i C ρ) (evalOp x C ρ) fun σ' => k (.skip σ')
  | .range t x => fun C σ ρ k => opRange (C.P.underlying t) σ (evalOp x C ρ) k
  | .next it s => fun C σ ρ k => chk s "next: map" (opNext (evalOp it C ρ) σ k)
  | .typeAssert x _ t ok => fun C σ ρ k => chk (isConcreteT C t) "typeassert" (aTypeAssert (evalOp x C ρ) C t ok fun v => k (.value v σ))
  | .extract x i => fun C σ ρ k => aExtract (evalOp x C ρ) i fun v => k (.value v σ)
  | .call c => fun C σ ρ k => opCall c.callee C σ ρ c.argTypes.toList c.args.toList k
  | _ => fun _ _ _ _ => Fail "op"

/-- the slot of the operation at place j -/
def dstAt (ops : List Oper) (j : Nat) : Option Nat := match nthO ops j with | some g => g.dst | none => none
def guardA (v : AVal) : Bool → (Bool → Res) → Res :=
  match v with
  | .bool b => fun want k => k (b == want)
  | .tuple _ => fun _ k => k false
  | _ => fun _ _ => Fail "guard"
def guardAt (d : Option Nat) : Env → Bool → (Bool → Res) → Res :=
  match d with
  | some d => fun ρ want k => guardA (ρ d) want k
  | none => fun _ _ _ => Fail "guard: none"
def wantedA (g : Option (Nat × Bool)) : List Oper → Env → (Bool → Res) → Res :=
  match g with
  | none => fun _ _ k => k true
  | some (j, want) => fun ops ρ k => guardAt (dstAt ops j) ρ want k
/-- the slot d gets v, if there is such a slot -/
def putDst (dst : Option Tmp) : Nat → Env → AVal → (Env → Res) → Res :=
  match dst with
  | some d => fun size ρ v k => chk (Nat.blt d size) "slot" (k (putE ρ d v))
  | none => fun _ ρ _ k => k ρ

/-! ### Regions that draw their order -/
inductive Kind where
  | pure | read | fresh | big
  deriving DecidableEq, Inhabited

def kindOf (P : Program) (o : Op) : Kind :=
  match o with
  | .move _ | .assign _ | .pick .. | .build .. | .nilCheck _ | .binOp .. | .unOp .. | .makeInterface .. | .makeFunc .. | .slice .. | .fieldAddr .. | .field ..
  | .indexAddr .. | .index .. | .typeAssert .. | .extract .. => .pure
  | .load .. => .read
  | .lookup .. => .read
  | .alloc _ | .box .. | .buildSlice .. | .makeMap .. | .makeSlice .. => .fresh
  | .convert s d _ => match P.underlying s, P.underlying d with
    | some (.int _), some (.int _) => .pure
    | some (.int _), some .string => .pure
    | some .string, some .string => .pure
    | some (.slice _), some .string => .read
    | some .string, some (.slice _) => .fresh
    | _, _ => .big
  | .call { callee := .builtin .len, .. } => .read
  | .call { callee := .builtin .min, .. } | .call { callee := .builtin .max, .. } => .pure
  | _ => .big

def blockOf (v : AVal) : Option Nat := match v with | .ptr b _ => some b | .slice b .. => some b | .map b => some b | _ => none
/-- the block that a reading operation looks into -/
def readBlock (o : Op) : Ctx → Env → Option Nat :=
  match o with
  | .load _ a => fun C ρ => blockOf (evalOp a C ρ)
  | .lookup _ x _ _ => fun C ρ => blockOf (evalOp x C ρ)
  | .convert _ _ x => fun C ρ => blockOf (evalOp x C ρ)
  | .call c => fun C ρ => blockOf (nthD (evalOps c.args.toList C ρ) 0)
  | _ => fun _ _ => none

def direct (o : Oper) : Nat := (o.after.toList.filter (Region.binds .any ·)).foldl (fun m e => m ||| (1 <<< e.on)) 0

def closeOnce (l : List Nat) : List Nat :=
  l.map fun m => (l.foldl (fun (p : Nat × Nat) mj => (bif Nat.testBit m p.2 then p.1 ||| mj else p.1, p.2 + 1)) (m, 0)).1

def closeN : Nat → List Nat → List Nat
  | 0, l => l
  | n + 1, l => closeN n (closeOnce l)

def looksAt (ops : List Oper) (o : Oper) : List Tmp :=
  (o.op.operands.toList.filterMap fun | .tmp t => some t | _ => none) ++
  (match o.guard with
   | some (g, _) => (dstAt ops g).toList
   | none => [])

structure PlanRow where
  i : Nat
  o : Oper
  kind : Kind
  anc : Nat

def planRows (P : Program) (ops : List Oper) : List PlanRow :=
  ((ops.zip (closeN 6 (ops.map direct))).zipIdx).map fun ((o, m), i) => { i, o, kind := kindOf P o.op, anc := m }

def isReady (done : Nat) (r : PlanRow) : Bool := !(Nat.testBit done r.i) && Nat.beq (direct r.o &&& done) (direct r.o)

/-- which one goes next: what is not big first -/
def pickNext (rows : List PlanRow) (done : Nat) : Option PlanRow :=
  match rows.find? fun r => isReady done r && r.kind != .big with
  | some r => some r
  | none => rows.find? fun r => isReady done r

def greedy (rows : List PlanRow) : Nat → Nat → List PlanRow
  | 0, _ => []
  | n + 1, done => match pickNext rows done with
    | some r => r :: greedy rows n (done ||| (1 <<< r.i))
    | none => []

def bigsOk : List PlanRow → Bool
  | [] => true
  | r :: rest => (match r.kind with | .big => rest.all fun q => Nat.testBit q.anc r.i | _ => true) && bigsOk rest

def tmpsOk (ops : List Oper) (rows : List PlanRow) : Bool :=
  rows.all fun j => rows.all fun k =>
    Nat.beq k.i j.i ||
    (match k.o.dst with
     | none => true
     | some d => (!((looksAt ops j.o).contains d) || Nat.testBit j.anc k.i || Nat.testBit k.anc j.i) && !(j.o.dst == some d))

/-- an order for a region that draws its own, where it does not matter -/
def mkPlan (P : Program) (ops : List Oper) : Option (List PlanRow) :=
  let order := greedy (planRows P ops) ops.length 0
  bif Nat.beq order.length ops.length && bigsOk order && tmpsOk ops order then some order else none

/-! ### Calls -/
/-- what a callee that only reads finds -/
def purify : Nat → Heap → AVal → AVal
  | 0, _, v => v
  | n + 1, σ, v =>
    match v with
    | .slice b off s l cap ex =>
      match σ.get b with
      | some (.cells _ row _) => .pslice s l (fun i => mapL (purify n σ) (cut row (off + i * s) s)) (cond ex cap l) ex
      | _ => v
    | .agg cs => .agg (mapL (purify n σ) cs)
    | v => v

abbrev Sub := AFrame → Heap → (AVal → Heap → Res) → Res

def bodyOf (C : Ctx) (f : Nat) : Option (Code × Nat) :=
  match C.P.funcs[f]? with
  | some fn => match fn.body with
    | some c => some (c, fn.ntmps)
    | none => none
  | none => none

def enterA (b : Option (Code × Nat)) : Nat → List AVal → (AFrame → Res) → Res :=
  match b with
  | some (c, n) => fun f args k => chk (Nat.ble (len args) n) "enter: size" (k ⟨f, nthD args, n, [.code c], [], false, none⟩)
  | none => fun _ _ _ => Fail "enter: no body"

def setParams (ps : List Tmp) : List AVal → Env → Env :=
  List.rec (motive := fun _ => List AVal → Env → Env) (fun _ ρ => ρ)
    (fun p _ ih as ρ => List.rec (motive := fun _ => Env) ρ (fun a as' _ => ih as' (putE ρ p a)) as) ps

def roundA (o : Option AObj) : Nat → List AVal → (AFrame → Res) → Res :=
  match o with
  | some (.loop l) => fun b args k =>
    chk (Nat.beq (len args) l.params.size && allB (fun p => Nat.blt p l.size) l.params.toList) "round" <|
    k ⟨l.fn, setParams l.params.toList args l.tmps, l.size, [.code l.assign, .beginRound, .code l.body], [], false, some b⟩
  | _ => fun _ _ _ => Fail "round: loop"

/-- a call: by what stands for it, or by its body -/
def callK (or : Option Oracle) : Ctx → Heap → Nat → List AVal → (AVal → Res) → (AFrame → Res) → Res :=
  match or with
  | some or => fun _ σ _ args kv _ => chk (or.pre (mapL (purify 4 σ) args)) "oracle" (kv (or.val (mapL (purify 4 σ) args)))
  | none => fun C _ f args _ kf => enterA (bodyOf C f) f args kf

/-- a call inside a region that draws -/
def subCall (nx : ANext) : Ctx → Sub → Heap → (AVal → Heap → Res) → Res :=
  match nx with
  | .value v σ' => fun _ _ _ k => k v σ'
  | .skip σ' => fun _ _ _ k => k (.tuple []) σ'
  | .enter f args => fun C sub σ k => callK (C.O f) C σ f args (fun v => k v σ) (fun fr => sub fr σ k)
  | .round b args => fun _ sub σ k => roundA (σ.get b) b args fun fr => sub fr σ k

/-- what has been read or made, and in which blocks -/
abbrev Seen := List (Nat × Nat)

/-- what stood there ahead of the region (below 'base') may still be read; what the region has made is hidden -/
def hideO (base b : Nat) (o : Option AObj) : Option AObj := cond (Nat.blt b base) (lockO o) none
def hideAll (base : Nat) (σ : Heap) : Seen → Nat → Heap
  | [], _ => σ
  | (i, b) :: r, anc => cond (Nat.testBit anc i) (hideAll base σ r anc) (hideAll base (σ.put b (hideO base b (σ.get b))) r anc)

def unhide (σ0 σ : Heap) : Seen → Nat → Heap
  | [], _ => σ
  | (i, b) :: r, anc => cond (Nat.testBit anc i) (unhide σ0 σ r anc) (unhide σ0 (σ.put b (σ0.get b)) r anc)

def onlyValue (nx : ANext) : (AVal → Res) → Res :=
  match nx with
  | .value v _ => fun k => k v
  | _ => fun _ => Fail "draw: value"
def freshK (o : Option AObj) : (AObj → Res) → Res := match o with | some o => fun k => k o | none => fun _ => Fail "draw: fresh"
def onlyFresh (nx : ANext) : Nat → (AVal → AObj → Res) → Res :=
  match nx with
  | .value v σ' => fun b k => freshK (σ'.get b) fun o => k v o
  | _ => fun _ _ => Fail "draw: fresh"
def seeBlock (b : Option Nat) : Nat → Seen → Seen := match b with | some b => fun i seen => (i, b) :: seen | none => fun _ seen => seen

def lowBlock (b : Option Nat) : Nat → Bool := match b with | some b => fun n => Nat.blt b n | none => fun _ => true

abbrev DrawK := Seen → Env → Heap → Res
def drawOp (kd : Kind) : Ctx → Sub → Nat → Nat → PlanRow → Seen → Env → Heap → DrawK → Res :=
  match kd with
  | .pure => fun C _ _ size r seen ρ σ go => aOper r.o.op C ⟨0, .nil⟩ ρ fun nx => onlyValue nx fun v => putDst r.o.dst size ρ v fun ρ' => go seen ρ' σ
  | .read => fun C _ _ size r seen ρ σ go => chk (lowBlock (readBlock r.o.op C ρ) σ.next) "draw: block" <| aOper r.o.op C σ ρ fun nx => onlyValue nx fun v => putDst r.o.dst size ρ v fun ρ' => go (seeBlock (readBlock r.o.op C ρ) r.i seen) ρ' σ
  | .fresh => fun C _ _ size r seen ρ σ go => aOper r.o.op C ⟨σ.next, .nil⟩ ρ fun nx => onlyFresh nx σ.next fun v ob => putDst r.o.dst size ρ v fun ρ' => go ((r.i, σ.next) :: seen) ρ' (σ.new ob)
  | .big => fun C sub base size r seen ρ σ go => aOper r.o.op C (hideAll base σ seen r.anc) ρ fun nx =>
      subCall nx C sub (hideAll base σ seen r.anc) fun v σ' => putDst r.o.dst size ρ v fun ρ' => go seen ρ' (unhide σ σ' seen r.anc)
def drawRun (C : Ctx) (sub : Sub) (base size : Nat) (ops : List Oper) (k : Env → Heap → Res) (rows : List PlanRow) : DrawK :=
  List.rec (motive := fun _ => DrawK) (fun _ ρ σ => k ρ σ)
    (fun r _ ih seen ρ σ => wantedA r.o.guard ops ρ fun w =>
      cond w (drawOp r.kind C sub base size r seen ρ σ ih) (putDst r.o.dst size ρ (.tuple []) fun ρ' => ih seen ρ' σ)) rows

/-! ### The step -/
def exitToA (id : Nat) : List AItem → Option (List AItem)
  | .inBlock id' :: k => bif Nat.beq id' id then some k else exitToA id k
  | _ :: k => exitToA id k
  | [] => none

def gotoInA (l : Nat) : List AItem → Option (List AItem)
  | .inScope body :: k =>
    match findLabel body l with
    | some rest => some (.code rest :: .inScope body :: k)
    | none => gotoInA l k
  | _ :: k => gotoInA l k
  | [] => none

def regBack (rest : List Oper) : AFrame → Array Oper → List AItem → List AFrame → AVal → Heap → (AConf → Res) → Res :=
  match rest with
  | o :: rest => fun c ops k cs v σ next => putDst o.dst c.size c.tmps v fun ρ => next ⟨⟨c.fn, ρ, c.size, .inRegion ops rest :: k, c.defers, c.ret, c.rnd⟩, cs, σ⟩
  | [] => fun _ _ _ _ _ _ _ => Fail "finish"
def itemBack (x : AItem) : AFrame → List AItem → List AFrame → AVal → Heap → (AConf → Res) → Res :=
  match x with
  | .inRegion ops rest => fun c k cs v σ next => regBack rest c ops k cs v σ next
  | .inRangeFunc b => fun c k cs _ σ next => next ⟨⟨c.fn, c.tmps, c.size, .endRangeFunc b :: k, c.defers, c.ret, c.rnd⟩, cs, σ⟩
  | _ => fun _ _ _ _ _ _ => Fail "finish"
def todoBack (t : List AItem) : AFrame → List AFrame → AVal → Heap → (AConf → Res) → Res :=
  match t with
  | x :: k => fun c cs v σ next => itemBack x c k cs v σ next
  | [] => fun _ _ _ _ _ => Fail "finish"
/-- hand a value back to the caller, or out -/
def giveBack (cs : List AFrame) : AVal → Heap → (AConf → Res) → (AVal → Heap → Res) → Res :=
  match cs with
  | [] => fun v σ _ out => out v σ
  | c :: cs => fun v σ next _ => todoBack c.todo c cs v σ next

def resultA (r : ResultVar) : Ctx → Heap → Env → (AVal → Res) → Res :=
  match r with
  | .tmp t => fun _ _ ρ k => k (ρ t)
  | .cell a t => fun C σ ρ k => aLoad (ρ a) C σ t k
def resultsA (rs : List ResultVar) : Ctx → Heap → Env → (List AVal → Res) → Res :=
  List.rec (motive := fun _ => Ctx → Heap → Env → (List AVal → Res) → Res) (fun _ _ _ k => k [])
    (fun r _ ih C σ ρ k => resultA r C σ ρ fun v => ih C σ ρ fun vs => k (v :: vs)) rs

def oneOrAll (vs : List AVal) : AVal := match vs with | [v] => v | vs => .tuple vs

def endRound (l : ALoop) (σ : Heap) (b : Nat) (jump : Option Code) : Heap :=
  σ.put b (some (.loop ⟨(match jump with | none => .ready | some _ => .done), jump, l.fn, l.tmps, l.size, l.params, l.assign, l.body, l.defers⟩))

/-- the frame is left: by a jump that nothing in it takes, or off its end -/
def leave (rnd : Option Nat) : AConf → Option Code → Bool → (AConf → Res) → (AVal → Heap → Res) → Res :=
  match rnd with
  | none => fun c _ plain next _ => chk plain "leave" (next ⟨⟨c.fr.fn, c.fr.tmps, c.fr.size, c.fr.todo, c.fr.defers, true, none⟩, c.cs, c.σ⟩)
  | some b => fun c jump _ next out => withLoop (c.σ.get b) fun l => giveBack c.cs (.bool (match jump with | none => true | some _ => false)) (endRound l c.σ b jump) next out

def fnK (fn : Option Func) : (Func → Res) → Res := match fn with | some fn => fun k => k fn | none => fun _ => Fail "return: function"
def takeDef (o : Option AObj) : Res → Res := match o with | some (.deferred true) => fun k => k | _ => fun _ => Fail "defer"
def retStep (ds : List Nat) : Ctx → AConf → (AConf → Res) → (AVal → Heap → Res) → Res :=
  match ds with
  | d :: ds => fun _ c next _ => takeDef (c.σ.get d) (next ⟨⟨c.fr.fn, c.fr.tmps, c.fr.size, c.fr.todo, ds, true, c.fr.rnd⟩, c.cs, c.σ.put d (some (.deferred false))⟩)
  | [] => fun C c next out => fnK (C.P.funcs[c.fr.fn]?) fun fn => resultsA fn.results.toList C c.σ c.fr.tmps fun vs => giveBack c.cs (oneOrAll vs) c.σ next out

/-- the activation goes on with other things to do -/
def withTodo (c : AConf) (todo : List AItem) : AConf := ⟨⟨c.fr.fn, c.fr.tmps, c.fr.size, todo, c.fr.defers, false, c.fr.rnd⟩, c.cs, c.σ⟩
def withAll (c : AConf) (ρ : Env) (todo : List AItem) (σ : Heap) : AConf := ⟨⟨c.fr.fn, ρ, c.fr.size, todo, c.fr.defers, false, c.fr.rnd⟩, c.cs, σ⟩

def condStep (v : AVal) : AConf → Code → Code → List AItem → (AConf → Res) → Res :=
  match v with
  | .bool b => fun c thn els k next => cond b (next (withTodo c (.code thn :: k))) (next (withTodo c (.code els :: k)))
  | _ => fun _ _ _ _ _ => Fail "cond"

def enterLoop (rnd : Option Nat) : Ctx → AConf → Array Tmp → Code → Code → List AItem → Nat → List AVal → (AConf → Res) → Res :=
  match rnd with
  | none => fun C c params assign body k g cap next =>
    enterA (bodyOf C g) g (.func (.yield (Nat.succ c.σ.next)) [] :: cap) fun fr' =>
    next ⟨fr', ⟨c.fr.fn, c.fr.tmps, c.fr.size, .inRangeFunc (Nat.succ c.σ.next) :: k, c.σ.next :: c.fr.defers, false, none⟩ :: c.cs,
      (c.σ.new (.deferred true)).new (.loop ⟨.ready, none, c.fr.fn, c.fr.tmps, c.fr.size, params, assign, body, c.σ.next⟩)⟩
  | some l => fun C c params assign body k g cap next =>
    withLoop (c.σ.get l) fun lp =>
      enterA (bodyOf C g) g (.func (.yield c.σ.next) [] :: cap) fun fr' =>
      next ⟨fr', ⟨c.fr.fn, c.fr.tmps, c.fr.size, .inRangeFunc c.σ.next :: k, c.fr.defers, false, some l⟩ :: c.cs,
        c.σ.new (.loop ⟨.ready, none, c.fr.fn, c.fr.tmps, c.fr.size, params, assign, body, lp.defers⟩)⟩
def rangeFn (f : AFn) : Ctx → AConf → Array Tmp → Code → Code → List AItem → List AVal → (AConf → Res) → Res :=
  match f with
  | .func g => fun C c params assign body k cap next => chk (fnOk C g) "rangefunc: no body" (enterLoop c.fr.rnd C c params assign body k g cap next)
  | .yield _ => fun _ _ _ _ _ _ _ _ => Fail "rangefunc"
def rangeStep (v : AVal) : Ctx → AConf → Array Tmp → Code → Code → List AItem → (AConf → Res) → Res :=
  match v with
  | .func f cap => fun C c params assign body k next => rangeFn f C c params assign body k cap next
  | _ => fun _ _ _ _ _ _ _ => Fail "rangefunc"

/-- a call out of a region -/
def callIn (c : AConf) (ops : Array Oper) (o : Oper) (rest : List Oper) (k : List AItem) (ρ : Env) (σ : Heap) (next : AConf → Res) (fr' : AFrame) : Res :=
  next ⟨fr', ⟨c.fr.fn, ρ, c.fr.size, .inRegion ops (o :: rest) :: k, c.fr.defers, false, c.fr.rnd⟩ :: c.cs, σ⟩
def opNextStep (nx : ANext) : Ctx → Heap → Nat → Env → Option Tmp → (Env → Heap → Res) → (AFrame → Res) → Res :=
  match nx with
  | .value v σ' => fun _ _ size ρ dst go _ => putDst dst size ρ v fun ρ' => go ρ' σ'
  | .skip σ' => fun _ _ size ρ dst go _ => putDst dst size ρ (.tuple []) fun ρ' => go ρ' σ'
  | .enter f args => fun C σ size ρ dst go call => callK (C.O f) C σ f args (fun v => putDst dst size ρ v fun ρ' => go ρ' σ) call
  | .round b args => fun _ σ _ _ _ _ call => roundA (σ.get b) b args call
/-- the operations of a region, one by one, up to a call or the end -/
def runOps (C : Ctx) (c : AConf) (ops : Array Oper) (k : List AItem) (next : AConf → Res) (rest : List Oper) : Env → Heap → Res :=
  List.rec (motive := fun _ => Env → Heap → Res) (fun ρ σ => next (withAll c ρ k σ))
    (fun o rest ih ρ σ => wantedA o.guard ops.toList ρ fun w =>
      cond w (aOper o.op C σ ρ fun nx => opNextStep nx C σ c.fr.size ρ o.dst ih (callIn c ops o rest k ρ σ next))
        (putDst o.dst c.fr.size ρ (.tuple []) fun ρ' => ih ρ' σ)) rest

def drawStep (plan : Option (List PlanRow)) : Ctx → Sub → AConf → Array Oper → List AItem → (AConf → Res) → Res :=
  match plan with
  | some plan => fun C sub c ops k next => drawRun C sub c.σ.next c.fr.size ops.toList (fun ρ σ => next (withAll c ρ k σ)) plan [] c.fr.tmps c.σ
  | none => fun _ _ _ _ _ _ => Fail "draw: no plan"

def jumpTo (to : Option (List AItem)) : AConf → Code → (AConf → Res) → (AVal → Heap → Res) → Res :=
  match to with
  | some k' => fun c _ next _ => next (withTodo c k')
  | none => fun c jump next out => leave c.fr.rnd c (some jump) false next out

abbrev StepK := Ctx → Sub → AConf → (AConf → Res) → (AVal → Heap → Res) → List AItem → Res
/-- one piece of code, and what it begins with -/
def codeStep (x : Code) : StepK :=
  Code.rec (motive := fun _ => StepK)
    (fun _ _ c next _ k => next (withTodo c k))
    (fun _ ops draw C sub c next _ k => cond draw (drawStep (mkPlan C.P ops.toList) C sub c ops k next) (runOps C c ops k next ops.toList c.fr.tmps c.σ))
    (fun _ b iha _ C sub c next out k => iha C sub c next out (.code b :: k))
    (fun x thn els _ _ C _ c next _ k => condStep (evalOp x C c.fr.tmps) c thn els k next)
    (fun id _ ih C sub c next out k => ih C sub c next out (.inBlock id :: k))
    (fun body ih C sub c next out k => ih C sub c next out (.inLoop body :: k))
    (fun f params assign body _ _ C _ c next _ k => rangeStep (evalOp f C c.fr.tmps) C c params assign body k next)
    (fun id _ _ c next out k => jumpTo (exitToA id k) c (.exit id) next out)
    (fun body ih C sub c next out k => ih C sub c next out (.inScope body :: k))
    (fun _ _ _ c next _ k => next (withTodo c k))
    (fun l _ _ c next out k => jumpTo (gotoInA l k) c (.goto l) next out)
    (fun _ _ c next out _ => leave c.fr.rnd c (some .ret) true next out)
    (fun _ _ _ _ _ _ _ => Fail "refuse") x

def readyK (s : LoopState) : Res → Res := match s with | .ready => fun k => k | _ => fun _ => Fail "beginRound: state"
def notBusyK (s : LoopState) : Res → Res := match s with | .busy => fun _ => Fail "endLoop: busy" | _ => fun k => k
def beginStep (rnd : Option Nat) : AConf → List AItem → (AConf → Res) → Res :=
  match rnd with
  | some b => fun c k next => withLoop (c.σ.get b) fun l => readyK l.state (next (withAll c c.fr.tmps k (c.σ.put b (some (.loop ⟨.busy, l.pending, l.fn, l.tmps, l.size, l.params, l.assign, l.body, l.defers⟩)))))
  | none => fun _ _ _ => Fail "beginRound"
def pend (j : Option Code) (k : List AItem) : List AItem := match j with | some j => .code j :: k | none => k
def endStep (c : AConf) (b : Nat) (k : List AItem) (next : AConf → Res) : Res :=
  withLoop (c.σ.get b) fun l => notBusyK l.state (next (withAll c c.fr.tmps (pend l.pending k) (c.σ.put b (some (.loop ⟨.exhausted, l.pending, l.fn, l.tmps, l.size, l.params, l.assign, l.body, l.defers⟩)))))

def itemStep (x : AItem) : StepK :=
  match x with
  | .code x => codeStep x
  | .inBlock _ => fun _ _ c next _ k => next (withTodo c k)
  | .inScope _ => fun _ _ c next _ k => next (withTodo c k)
  | .inLoop body => fun C sub c next out k => codeStep body C sub c next out (.inLoop body :: k)
  | .inRangeFunc _ => fun _ _ _ _ _ _ => Fail "inRangeFunc"
  | .beginRound => fun _ _ c next _ k => beginStep c.fr.rnd c k next
  | .endRangeFunc b => fun _ _ c next _ k => endStep c b k next
  | .inRegion ops rest => fun C _ c next _ k => runOps C c ops k next rest c.fr.tmps c.σ

def todoStep (t : List AItem) : Ctx → Sub → AConf → (AConf → Res) → (AVal → Heap → Res) → Res :=
  match t with
  | [] => fun _ _ c next out => leave c.fr.rnd c none true next out
  | x :: k => fun C sub c next out => itemStep x C sub c next out k

def astep (C : Ctx) (sub : Sub) (c : AConf) (next : AConf → Res) (out : AVal → Heap → Res) : Res :=
  cond c.fr.ret (retStep c.fr.defers C c next out) (todoStep c.fr.todo C sub c next out)

/-- the run, n steps at most; 'stop' tells where it hands the state over to 'at_' -/
def arun (n : Nat) : Ctx → (AConf → Bool) → AConf → (AConf → Res) → (AVal → Heap → Res) → Res :=
  Nat.rec (motive := fun _ => Ctx → (AConf → Bool) → AConf → (AConf → Res) → (AVal → Heap → Res) → Res)
    (fun _ _ c at_ _ => at_ c)
    (fun _ ih C stop c at_ out => astep C (fun fr σ k => ih C (fun _ => false) ⟨fr, [], σ⟩ (fun _ => Fail "sub: rounds") k) c
      (fun c' => cond (stop c') (at_ c') (ih C stop c' at_ out)) out) n
end Go.AE

