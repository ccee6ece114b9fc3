/- The runner on abstract values that the kernel can run; no conditions. -/
import GoSem.Step
import Derived.Calls
set_option linter.unusedVariables false
set_option linter.unusedSimpArgs false

/- A runner on abstract values, made so that the kernel can run it: every function hands on to a continuation, and what it hands on is written out. -/
namespace Go.Proofs.YthidihigidchgaaGreatDoor.Sy
noncomputable section

/-! Trees keyed by numbers: eight ways a node. -/
inductive Tr (α : Type) where
  | e
  | n (v : Option α) (a b c d e f g h : Tr α)

namespace Tr
variable {α : Type}
/-- one of eight, by a digit -/
def sel {β : Type} (a b c d q f g h : β) (i : Nat) : β :=
  Nat.rec a (fun i _ => Nat.rec b (fun i _ => Nat.rec c (fun i _ => Nat.rec d (fun i _ => Nat.rec q (fun i _ => Nat.rec f (fun i _ => Nat.rec g (fun _ _ => h) i) i) i) i) i) i) i
/-- the value at a key is handed on; false, if there is none -/
def getK : Nat → Tr α → Nat → (α → Bool) → Bool :=
  Nat.rec (fun _ _ _ => false) fun _ ih t => Tr.casesOn (motive := fun _ => Nat → (α → Bool) → Bool) t (fun _ _ => false)
    fun v a b c d q f g h p k => Nat.rec (Option.rec (fun _ => false) (fun x k => k x) v k) (fun p _ => ih (sel a b c d q f g h (Nat.mod p 8)) (Nat.div p 8) k) p
def depth : Nat := 8
def get (t : Tr α) (p : Nat) (k : α → Bool) : Bool := getK 8 t p k
/-- is there a value at a key? -/
def hasK (t : Tr α) (p : Nat) : Bool := get t p fun _ => true
def putA (v : Option α) (b c d q f g h : Tr α) (k : Tr α → Bool) (a : Tr α) : Bool := k (.n v a b c d q f g h)
def putB (v : Option α) (a c d q f g h : Tr α) (k : Tr α → Bool) (b : Tr α) : Bool := k (.n v a b c d q f g h)
def putC (v : Option α) (a b d q f g h : Tr α) (k : Tr α → Bool) (c : Tr α) : Bool := k (.n v a b c d q f g h)
def putD (v : Option α) (a b c q f g h : Tr α) (k : Tr α → Bool) (d : Tr α) : Bool := k (.n v a b c d q f g h)
def putE (v : Option α) (a b c d f g h : Tr α) (k : Tr α → Bool) (q : Tr α) : Bool := k (.n v a b c d q f g h)
def putF (v : Option α) (a b c d q g h : Tr α) (k : Tr α → Bool) (f : Tr α) : Bool := k (.n v a b c d q f g h)
def putG (v : Option α) (a b c d q f h : Tr α) (k : Tr α → Bool) (g : Tr α) : Bool := k (.n v a b c d q f g h)
def putH (v : Option α) (a b c d q f g : Tr α) (k : Tr α → Bool) (h : Tr α) : Bool := k (.n v a b c d q f g h)
/-- the place under a node -/
def under (ih : Tr α → Nat → Option α → (Tr α → Bool) → Bool) (v : Option α) (a b c d q f g h : Tr α) (p : Nat) (x : Option α) (k : Tr α → Bool) (i : Nat) : Bool :=
  Nat.rec (ih a p x (putA v b c d q f g h k)) (fun i _ => Nat.rec (ih b p x (putB v a c d q f g h k)) (fun i _ => Nat.rec (ih c p x (putC v a b d q f g h k)) (fun i _ =>
    Nat.rec (ih d p x (putD v a b c q f g h k)) (fun i _ => Nat.rec (ih q p x (putE v a b c d f g h k)) (fun i _ => Nat.rec (ih f p x (putF v a b c d q g h k)) (fun i _ =>
      Nat.rec (ih g p x (putG v a b c d q f h k)) (fun _ _ => ih h p x (putH v a b c d q f g k)) i) i) i) i) i) i) i
/-- a node is written anew -/
def setK : Nat → Tr α → Nat → Option α → (Tr α → Bool) → Bool :=
  Nat.rec (fun _ _ _ _ => false) fun _ ih t => Tr.casesOn (motive := fun _ => Nat → Option α → (Tr α → Bool) → Bool) t
    (fun p x k => Nat.rec (k (.n x .e .e .e .e .e .e .e .e)) (fun p _ => under ih none .e .e .e .e .e .e .e .e (Nat.div p 8) x k (Nat.mod p 8)) p)
    fun v a b c d q f g h p x k => Nat.rec (k (.n x a b c d q f g h)) (fun p _ => under ih v a b c d q f g h (Nat.div p 8) x k (Nat.mod p 8)) p
def set (t : Tr α) (p : Nat) (x : Option α) (k : Tr α → Bool) : Bool := setK 8 t p x k
def ofList : List α → Nat → Tr α → (Tr α → Bool) → Bool :=
  List.rec (fun _ t k => k t) fun x _ ih i t k => set t i (some x) fun t => ih (Nat.succ i) t k
end Tr

/-! Abstract values. -/
inductive AV where
  | bool (b : Bool)
  | int (k : IntKind) (n : Int)
  | float (k : FloatKind) (bits : Nat)
  | complex (k : FloatKind) (re im : Nat)
  | str (s : List Nat)
  | nilp
  | ptr (id off : Nat)
  | nils
  | slice (id off len cap : Nat)
  | slicex (id off len sym minus : Nat)
  | nilm
  | map (id : Nat)
  | func (fn : Fn) (first captured : List AV)
  | yield (id : Nat)
  | nilFunc
  | iface (t : TypeId) (v : AV)
  | nilIface
  | agg (cs : List AV)
  | tuple (vs : List AV)
  | atom (i : Nat)
  deriving Inhabited

inductive ATgt where
  | fn (fn : Fn) (captured : List AV)
  | yield (id : Nat)
  | builtin (b : Builtin) (argTypes : Array TypeId) (type : TypeId) (consts : Array Bool)
  | collected (id : Nat)
  deriving Inhabited
structure ADef where
  target : ATgt
  args : List AV
  deriving Inhabited
structure AEnt where
  key : AV
  val : AV
  born : Nat
  deriving Inhabited
structure ALoop where
  state : LoopState
  pending : Option Code
  fn : FuncId
  tmps : Tr AV
  nt : Nat
  params : Array Tmp
  assign : Code
  body : Code
  defers : Nat
inductive AObj where
  | cells (vs : List AV) (ext : Nat) (plain : Bool)
  | map (es : List AEnt) (clock : Nat)
  | stringIter (s : List Nat) (pos : Nat)
  | mapIter (m : Option Nat) (since : Nat) (seen : List Nat) (stepped : Nat)
  | loop (l : ALoop)
  | deferred (ds : Option (List ADef))
  | glob (b t h o : Nat)

/-! What constants are. -/
mutual
def absV : Value → Option AV
  | .bool b => some (.bool b)
  | .int k n => some (.int k n)
  | .float k b => some (.float k b)
  | .complex k a b => some (.complex k a b)
  | .string s => some (.str (s.data.toList.map UInt8.toNat))
  | .pointer none => some .nilp
  | .slice none 0 0 => some .nils
  | .map none => some .nilm
  | .nilFunc => some .nilFunc
  | .nilIface => some .nilIface
  | .iface t v => match absV v with | some a => some (.iface t a) | none => none
  | .agg cs => match absA cs with | some l => some (.agg l) | none => none
  | .tuple cs => match absA cs with | some l => some (.tuple l) | none => none
  | .func (.yield _) _ _ => none
  | .func fn a b => match absA a, absA b with | some x, some y => some (.func fn x y) | _, _ => none
  | _ => none
def absA : Array Value → Option (List AV)
  | ⟨l⟩ => absL l
def absL : List Value → Option (List AV)
  | [] => some []
  | v :: r => match absV v, absL r with | some a, some l => some (a :: l) | _, _ => none
end

/-! Writing out. -/
def fzNat (n : Nat) (k : Nat → Bool) : Bool := Nat.casesOn (motive := fun _ => Bool) n (k 0) fun m => k (Nat.succ m)
def fzInt (n : Int) (k : Int → Bool) : Bool := Int.rec (fun m => fzNat m fun m => k (.ofNat m)) (fun m => fzNat m fun m => k (.negSucc m)) n
def fzBool (b : Bool) (k : Bool → Bool) : Bool := Bool.rec (k false) (k true) b
def fzNats : List Nat → (List Nat → Bool) → Bool := List.rec (fun k => k []) fun x _ ih k => fzNat x fun x => ih fun r => k (x :: r)
/-- one value that is no list of cells -/
def fz1 (v : AV) (k : AV → Bool) : Bool := match v with
  | .bool b => fzBool b fun b => k (.bool b)
  | .int i n => fzInt n fun n => k (.int i n)
  | .float i n => fzNat n fun n => k (.float i n)
  | .complex i a b => fzNat a fun a => fzNat b fun b => k (.complex i a b)
  | .str s => fzNats s fun s => k (.str s)
  | .ptr i o => fzNat i fun i => fzNat o fun o => k (.ptr i o)
  | .slice i o l c => fzNat i fun i => fzNat o fun o => fzNat l fun l => fzNat c fun c => k (.slice i o l c)
  | .slicex i o l s m => fzNat i fun i => fzNat o fun o => fzNat l fun l => fzNat s fun s => fzNat m fun m => k (.slicex i o l s m)
  | .map i => fzNat i fun i => k (.map i)
  | v => k v
def fzL : List AV → (List AV → Bool) → Bool := List.rec (fun k => k []) fun x _ ih k => fz1 x fun x => ih fun r => k (x :: r)
def fz (v : AV) (k : AV → Bool) : Bool := match v with
  | .agg cs => fzL cs fun cs => k (.agg cs)
  | .tuple cs => fzL cs fun cs => k (.tuple cs)
  | v => fz1 v k

/-! The tables. -/
/-- what is asked of a type: how many cells; whether it is a struct or an array; what it is underneath; its row -/
structure TI where
  size : Nat
  agg : Bool
  desc : TypeDesc
  info : TypeInfo
/-- functions without a body that are known -/
inductive Ext where
  | idxByte
  | f64bits
/-- functions with a body whose answer is known -/
inductive KnownF where
  | yes
  | asErr (b t h o : Nat) (te tt : TypeId)
structure Cx where
  p : Program
  types : Tr TI
  fns : Tr Func
  exts : Tr Ext
  kns : Tr KnownF

abbrev Kv := AV → Bool
def Cx.ty (C : Cx) (t : TypeId) (k : TI → Bool) : Bool := Tr.get C.types t k
def Cx.under (C : Cx) (t : TypeId) (k : TypeDesc → Bool) : Bool := Tr.get C.types t fun i => k i.desc
def Cx.size (C : Cx) (t : TypeId) (k : Nat → Bool) : Bool := Tr.get C.types t fun i => k i.size
def Cx.zero (C : Cx) (t : TypeId) (k : AV → Bool) : Bool := Tr.get C.types t fun i => match i.info.zero with
  | some v => match absV v with
    | some a => fz a k
    | none => false
  | none => false

/-- the cells of a value -/
def cellsOf (v : AV) (k : List AV → Bool) : Bool := match v with
  | .agg cs => k cs
  | .tuple _ => false
  | v => k [v]
/-- a cell's value -/
def AV.one : AV → Bool
  | .agg _ => false
  | .tuple _ => false
  | _ => true

/-! Memory. -/
abbrev AH := Tr AObj
/-- an operation's answer, the memory, and the next block's name -/
def AObj.onCells (k : List AV → Nat → Bool → Bool) (o : AObj) : Bool := match o with
  | .cells vs x p => k vs x p
  | _ => false
def AH.cells (H : AH) (id : Nat) (k : List AV → Nat → Bool → Bool) : Bool := Tr.get H id (AObj.onCells k)
/-- n cells from the list's head -/
def takeK : Nat → List AV → (List AV → Bool) → Bool :=
  Nat.rec (fun _ k => k []) fun _ ih l => List.rec (motive := fun _ => (List AV → Bool) → Bool) (fun _ => false) (fun x r _ k => ih r fun l => k (x :: l)) l
/-- without the first ones, then n -/
def rdK (vs : List AV) (off n : Nat) (k : List AV → Bool) : Bool :=
  Nat.rec (motive := fun _ => List AV → Bool) (fun l => takeK n l k) (fun _ ih l => List.rec (motive := fun _ => Bool) (takeK n [] k) (fun _ r _ => ih r) l) off vs
/-- just one cell -/
def rd1 (vs : List AV) (off : Nat) (k : AV → Bool) : Bool :=
  Nat.rec (motive := fun _ => List AV → Bool) (fun l => List.rec (motive := fun _ => Bool) false (fun x _ _ => k x) l) (fun _ ih l => List.rec (motive := fun _ => Bool) false (fun _ r _ => ih r) l) off vs
/-- lay a list over another's head -/
def layK (vs xs : List AV) (k : List AV → Bool) : Bool :=
  List.rec (motive := fun _ => List AV → (List AV → Bool) → Bool) (fun vs k => k vs)
    (fun x _ ih vs k => List.rec (motive := fun _ => Bool) false (fun _ vs _ => Bool.rec false (ih vs fun l => k (x :: l)) x.one) vs) xs vs k
def wrK (off : Nat) (vs xs : List AV) (k : List AV → Bool) : Bool :=
  Nat.rec (motive := fun _ => List AV → (List AV → Bool) → Bool) (fun vs k => layK vs xs k)
    (fun _ ih vs k => List.rec (motive := fun _ => Bool) false (fun v vs _ => ih vs fun l => k (v :: l)) vs) off vs k
def catK (xs ys : List AV) (k : List AV → Bool) : Bool :=
  List.rec (motive := fun _ => (List AV → Bool) → Bool) (fun k => k ys) (fun x _ ih k => ih fun l => k (x :: l)) xs k
def allOne : List AV → Bool := List.rec true fun x _ ih => Bool.rec false ih x.one
def lenL (l : List AV) (n : Nat) (k : Nat → Bool) : Bool := List.rec (motive := fun _ => Nat → Bool) (fun n => k n) (fun _ _ ih n => fzNat (Nat.succ n) ih) l n
/-- a new block of cells -/
def newCells (H : AH) (N : Nat) (vs : List AV) (ext : Nat) (plain : Bool) (k : AH → Nat → Bool) : Bool :=
  Bool.rec false (Tr.set H N (some (.cells vs ext plain)) fun H => fzNat (Nat.succ N) fun N => k H N) (allOne vs)
def newObj (H : AH) (N : Nat) (o : AObj) (k : AH → Nat → Bool) : Bool := Tr.set H N (some o) fun H => fzNat (Nat.succ N) fun N => k H N

/-- what an operation comes to -/
inductive AN where
  | val (v : AV)
  | skip
  | enter (f : FuncId) (args : List AV)
  | dfr (d : ADef)
  | rcv
  | round (l : Nat) (args : List AV)
  | pnc (v : AV)
  | either (it : Nat)
abbrev Kop := AN → AH → Nat → Bool

def evConst (v : Value) (k : AV → Bool) : Bool := match absV v with
  | some a => fz a k
  | none => false
def ev (x : Operand) : Tr AV → Kv → Bool := Operand.rec (fun t T k => Tr.get T t k) (fun v _ k => evConst v k) (fun _ _ _ => false) (fun f _ k => k (.func (.func f) [] [])) x
def evL (l : List Operand) : Tr AV → (List AV → Bool) → Bool := List.rec (fun _ k => k []) (fun x _ ih T k => ev x T fun v => ih T fun l => k (v :: l)) l
def evO (x : Option Operand) (T : Tr AV) (k : Option AV → Bool) : Bool := match x with
  | none => k none
  | some x => ev x T fun v => k (some v)

def asNat (v : AV) (k : IntKind → Nat → Bool) : Bool := match v with
  | .int i (.ofNat n) => k i n
  | _ => false

/-- equality of lists of numbers -/
def eqNats : List Nat → List Nat → Bool :=
  List.rec (fun l => List.rec true (fun _ _ _ => false) l) fun x _ ih l => List.rec (motive := fun _ => Bool) false (fun y s _ => Bool.rec false (ih s) (Nat.beq x y)) l
def allBytes : List Nat → Bool := List.rec true fun x _ ih => Bool.rec false ih (Nat.ble x 255)
def eqStr (a b : List Nat) (k : Bool → Bool) : Bool := match eqNats a b with
  | true => k true
  | false => match allBytes a with
    | true => match allBytes b with
      | true => k false
      | false => false
    | false => false
def ltNats : List Nat → List Nat → Bool
  | _, [] => false
  | [], _ :: _ => true
  | x :: r, y :: s => match Nat.ble (Nat.succ x) y with
    | true => true
    | false => match Nat.beq x y with
      | true => ltNats r s
      | false => false
end
end Go.Proofs.YthidihigidchgaaGreatDoor.Sy

namespace Go.Proofs.YthidihigidchgaaGreatDoor.Sy
noncomputable section

/-! Integers. -/
def kBits : IntKind → Nat
  | .i8 | .u8 => 8
  | .i16 | .u16 => 16
  | .i32 | .u32 => 32
  | .i64 | .u64 => 64
def kMod : IntKind → Nat
  | .i8 | .u8 => 256
  | .i16 | .u16 => 65536
  | .i32 | .u32 => 4294967296
  | .i64 | .u64 => 18446744073709551616
/-- the first number that is read as a negative one -/
def kHalf : IntKind → Nat
  | .i8 => 128
  | .i16 => 32768
  | .i32 => 2147483648
  | .i64 => 9223372036854775808
  | .u8 => 256
  | .u16 => 65536
  | .u32 => 4294967296
  | .u64 => 18446744073709551616
/-- a number's rest -/
def resid (k : IntKind) (n : Int) : Nat := match n with
  | .ofNat m => Nat.mod m (kMod k)
  | .negSucc m => Nat.sub (Nat.sub (kMod k) 1) (Nat.mod m (kMod k))
def unres (k : IntKind) (r : Nat) : Int := match Nat.ble (Nat.succ r) (kHalf k) with
  | true => .ofNat r
  | false => .negSucc (Nat.sub (Nat.sub (kMod k) r) 1)
def wrapA (k : IntKind) (n : Int) : Int := unres k (resid k n)
def ltI (x y : Int) : Bool := match x, y with
  | .ofNat a, .ofNat b => Nat.ble (Nat.succ a) b
  | .ofNat _, .negSucc _ => false
  | .negSucc _, .ofNat _ => true
  | .negSucc a, .negSucc b => Nat.ble (Nat.succ b) a
def eqI (x y : Int) : Bool := match x, y with
  | .ofNat a, .ofNat b => Nat.beq a b
  | .negSucc a, .negSucc b => Nat.beq a b
  | _, _ => false
def kEq : IntKind → IntKind → Bool
  | .i8, .i8 | .i16, .i16 | .i32, .i32 | .i64, .i64 | .u8, .u8 | .u16, .u16 | .u32, .u32 | .u64, .u64 => true
  | _, _ => false
def fEq : FloatKind → FloatKind → Bool
  | .f32, .f32 | .f64, .f64 => true
  | _, _ => false

def retI (k : IntKind) (n : Int) (c : Kv) : Bool := fzInt n fun n => c (.int k n)
def retB (b : Bool) (c : Kv) : Bool := fzBool b fun b => c (.bool b)

def intOp (op : BinOp) (k : IntKind) (a b : Int) (c : Kv) : Bool := match op with
  | .add => retI k (wrapA k (Int.add a b)) c
  | .sub => retI k (wrapA k (Int.sub a b)) c
  | .mul => retI k (wrapA k (Int.mul a b)) c
  | .quo => match eqI b 0 with
    | true => false
    | false => retI k (wrapA k (Int.tdiv a b)) c
  | .rem => match eqI b 0 with
    | true => false
    | false => retI k (Int.tmod a b) c
  | .and => retI k (unres k (Nat.land (resid k a) (resid k b))) c
  | .or => retI k (unres k (Nat.lor (resid k a) (resid k b))) c
  | .xor => retI k (unres k (Nat.xor (resid k a) (resid k b))) c
  | .andNot => retI k (unres k (Nat.land (resid k a) (Nat.sub (Nat.sub (kMod k) 1) (resid k b)))) c
  | .eql => retB (eqI a b) c
  | .neq => retB (Bool.not (eqI a b)) c
  | .lss => retB (ltI a b) c
  | .leq => retB (Bool.not (ltI b a)) c
  | .gtr => retB (ltI b a) c
  | .geq => retB (Bool.not (ltI a b)) c
  | _ => false
def shiftOp (op : BinOp) (k : IntKind) (x y : Int) (c : Kv) : Bool := match y with
  | .negSucc _ => false
  | .ofNat m => match op with
    | .shl => retI k (wrapA k (Int.mul x (.ofNat (Nat.pow 2 (Nat.min m (kBits k)))))) c
    | .shr => match x with
      | .ofNat a => retI k (.ofNat (Nat.div a (Nat.pow 2 (Nat.min m (kBits k))))) c
      | .negSucc a => retI k (.negSucc (Nat.div a (Nat.pow 2 (Nat.min m (kBits k))))) c
    | _ => false
def isOrd (o : Option Ordering) (x : Ordering) : Bool := match o, x with
  | some .eq, .eq | some .lt, .lt | some .gt, .gt => true
  | _, _ => false
def floatOp (op : BinOp) (k : FloatKind) (a b : Nat) (c : Kv) : Bool :=
  let arith (r : Option Nat) : Bool := match r with
    | some n => fzNat n fun n => c (.float k n)
    | none => false
  match op with
  | .add => arith (k.format.add a b)
  | .sub => arith (k.format.sub a b)
  | .mul => arith (k.format.mul a b)
  | .quo => arith (k.format.div a b)
  | .eql => retB (isOrd (k.format.order a b) .eq) c
  | .neq => retB (Bool.not (isOrd (k.format.order a b) .eq)) c
  | .lss => retB (isOrd (k.format.order a b) .lt) c
  | .leq => retB (Bool.or (isOrd (k.format.order a b) .lt) (isOrd (k.format.order a b) .eq)) c
  | .gtr => retB (isOrd (k.format.order a b) .gt) c
  | .geq => retB (Bool.or (isOrd (k.format.order a b) .gt) (isOrd (k.format.order a b) .eq)) c
  | _ => false
def complexOp (op : BinOp) (k : FloatKind) (a b x y : Nat) (c : Kv) : Bool := match op with
  | .eql => retB (Bool.and (isOrd (k.format.order a x) .eq) (isOrd (k.format.order b y) .eq)) c
  | .neq => retB (Bool.not (Bool.and (isOrd (k.format.order a x) .eq) (isOrd (k.format.order b y) .eq))) c
  | _ => false
def catN : List Nat → List Nat → (List Nat → Bool) → Bool
  | [], ys, k => k ys
  | x :: xs, ys, k => catN xs ys fun l => k (x :: l)
def lenN : List Nat → Nat → (Nat → Bool) → Bool
  | [], n, k => k n
  | _ :: r, n, k => fzNat (Nat.succ n) fun n => lenN r n k
def strOp (op : BinOp) (a b : List Nat) (c : Kv) : Bool := match op with
  | .add => lenN a 0 fun n => lenN b 0 fun m => match Nat.ble (Nat.add n m) 1000000000 with
    | true => catN a b fun l => c (.str l)
    | false => false
  | .eql => eqStr a b fun r => c (.bool r)
  | .neq => eqStr a b fun r => retB (Bool.not r) c
  | _ => match allBytes a with
    | true => match allBytes b with
      | true => match op with
        | .lss => retB (ltNats a b) c
        | .leq => retB (Bool.or (ltNats a b) (eqNats a b)) c
        | .gtr => retB (Bool.not (Bool.or (ltNats a b) (eqNats a b))) c
        | .geq => retB (Bool.not (ltNats a b)) c
        | _ => false
      | false => false
    | false => false

/-- part of an aggregate -/
def partA (C : Cx) (t : TypeId) (cs : List AV) (off : Nat) (k : Kv) : Bool :=
  C.ty t fun i => Bool.rec (rd1 cs off k) (rdK cs off i.size fun l => k (.agg l)) i.agg

/-- is '==' at this type free of two nils behind interfaces with methods? true: perhaps not -/
def guardT (C : Cx) : Nat → TypeId → Bool
  | 0, _ => true
  | d + 1, t => Bool.not (C.under t fun u => match u with
    | .interface _ => false
    | .struct fs => fs.toList.all fun f => Bool.not (guardT C d f.type)
    | .array _ e => Bool.not (guardT C d e)
    | _ => true)

def eqNat (a b : Nat) (k : Bool → Bool) : Bool := match Nat.beq a b with
  | true => k true
  | false => k false

/-- '==' by a type -/
def eqV (C : Cx) (H : AH) : Nat → TypeId → AV → AV → (Bool → Bool) → Bool
  | 0, _, _, _, _ => false
  | d + 1, t, x, y, k => C.under t fun u => match u, x, y with
    | .bool, .bool a, .bool b => fzBool (match a with | true => b | false => Bool.not b) k
    | .int _, .int i a, .int j b => match kEq i j with
      | true => fzBool (eqI a b) k
      | false => false
    | .float _, .float i a, .float j b => match fEq i j with
      | true => fzBool (isOrd (i.format.order a b) .eq) k
      | false => false
    | .complex _, .complex i a b, .complex j a' b' => match fEq i j with
      | true => fzBool (Bool.and (isOrd (i.format.order a a') .eq) (isOrd (i.format.order b b') .eq)) k
      | false => false
    | .string, .str a, .str b => eqStr a b k
    | .pointer _, .nilp, .nilp => k true
    | .pointer _, .nilp, .ptr _ _ => k false
    | .pointer _, .ptr _ _, .nilp => k false
    | .pointer e, .ptr i a, .ptr j b => C.size e fun n => match n with
      | 0 => false
      | _ + 1 => match Nat.beq i j with
        | true => eqNat a b k
        | false => H.cells i fun _ _ p => H.cells j fun _ _ q => match p with
          | true => match q with
            | true => k false
            | false => false
          | false => false
    | .interface _, .nilIface, .nilIface => k true
    | .interface _, .nilIface, .iface _ _ => k false
    | .interface _, .iface _ _, .nilIface => k false
    | .interface _, .iface a x, .iface b y => match Nat.beq a b with
      | false => k false
      | true => C.ty a fun i => match i.info.comparable with
        | true => eqV C H d a x y k
        | false => false
    | .struct fs, .agg xs, .agg ys => match C.p.stoodInHeld t with
      | true => false
      | false => eqF C H d fs.toList xs ys k
    | .slice _, .nils, .nils => k true
    | .slice _, .nils, .slice .. => k false
    | .slice _, .nils, .slicex .. => k false
    | .slice _, .slice .., .nils => k false
    | .slice _, .slicex .., .nils => k false
    | .map _ _, .nilm, .nilm => k true
    | .map _ _, .nilm, .map _ => k false
    | .map _ _, .map _, .nilm => k false
    | .func _ _ _, .nilFunc, .nilFunc => k true
    | .func _ _ _, .nilFunc, .func _ _ _ => k false
    | .func _ _ _, .func _ _ _, .nilFunc => k false
    | _, _, _ => false
where
  eqF (C : Cx) (H : AH) : Nat → List Field → List AV → List AV → (Bool → Bool) → Bool
  | 0, _, _, _, _ => false
  | _ + 1, [], _, _, k => k true
  | d + 1, f :: fs, xs, ys, k => match f.name == "_" with
    | true => eqF C H d fs xs ys k
    | false => partA C f.type xs f.offset fun x => partA C f.type ys f.offset fun y =>
      eqV C H d f.type x y fun b => match b with
        | true => eqF C H d fs xs ys k
        | false => k false

def isConst : Operand → Bool
  | .const _ => true
  | _ => false
def eqBy (C : Cx) (H : AH) (op : BinOp) (t : TypeId) (x y : AV) (c : Kv) : Bool := match op with
  | .eql => eqV C H 40 t x y fun b => c (.bool b)
  | .neq => eqV C H 40 t x y fun b => retB (Bool.not b) c
  | _ => false
def binA (C : Cx) (H : AH) (op : BinOp) (t : TypeId) (ox oy : Operand) (x y : AV) (c : Kv) : Bool :=
  match x, y with
  | .int k a, .int j b => match op with
    | .shl => shiftOp .shl k a b c
    | .shr => shiftOp .shr k a b c
    | op => match kEq k j with
      | true => intOp op k a b c
      | false => false
  | .float k a, .float j b => match fEq k j with
    | true => floatOp op k a b c
    | false => false
  | .complex k a b, .complex j x y => match fEq k j with
    | true => complexOp op k a b x y c
    | false => false
  | .str a, .str b => strOp op a b c
  | x, y => match x, y with
    | .nilIface, .nilIface => match Bool.or (isConst ox) (isConst oy) with
      | true => eqBy C H op t x y c
      | false => false
    | .agg _, .agg _ => match guardT C 30 t with
      | true => false
      | false => eqBy C H op t x y c
    | _, _ => eqBy C H op t x y c

def unA (op : UnOp) (x : AV) (c : Kv) : Bool := match op, x with
  | .neg, .int k n => retI k (wrapA k (Int.sub 0 n)) c
  | .xor, .int k n => retI k (unres k (Nat.sub (Nat.sub (kMod k) 1) (resid k n))) c
  | .not, .bool b => retB (Bool.not b) c
  | .neg, .float k b => fzNat (Op.negFloat k b) fun n => c (.float k n)
  | .neg, .complex k a b => fzNat (Op.negFloat k a) fun a => fzNat (Op.negFloat k b) fun b => c (.complex k a b)
  | _, _ => false

/-! Conversions. -/
def bytesAV : List Nat → (List AV → Bool) → Bool
  | [], k => k []
  | x :: r, k => bytesAV r fun l => k (.int .u8 (.ofNat x) :: l)
def bytesOf : List AV → (List Nat → Bool) → Bool
  | [], k => k []
  | .int .u8 (.ofNat n) :: r, k => match Nat.ble n 255 with
    | true => bytesOf r fun l => k (n :: l)
    | false => false
  | _ :: _, _ => false
/-- a text's bytes, in a new row whose room isn't known -/
def toBytes (H : AH) (N : Nat) (s : List Nat) (c : Kop) : Bool := match allBytes s with
  | true => bytesAV s fun vs => lenN s 0 fun n => newCells H N vs 1 false fun H' N' => c (.val (.slicex N 0 n N 0)) H' N'
  | false => false
def fromBytes (H : AH) (N : Nat) (x : AV) (c : Kop) : Bool := match x with
  | .nils => c (.val (.str [])) H N
  | .slice i o n _ => H.cells i fun vs _ _ => rdK vs o n fun l => bytesOf l fun s => c (.val (.str s)) H N
  | .slicex i o n _ _ => H.cells i fun vs _ _ => rdK vs o n fun l => bytesOf l fun s => c (.val (.str s)) H N
  | _ => false
def isByte (C : Cx) (t : TypeId) (k : Bool) : Bool := C.under t fun u => match u with
  | .int .u8 => k
  | _ => false
def convA (C : Cx) (H : AH) (N : Nat) (src dst : TypeId) (x : AV) (c : Kop) : Bool :=
  C.under src fun us => C.under dst fun ud => match us, ud, x with
    | _, .int k, .int _ n => retI k (wrapA k n) fun v => c (.val v) H N
    | _, .string, .str _ => c (.val x) H N
    | _, .slice e, .str s => isByte C e (toBytes H N s c)
    | .slice e, .string, x => isByte C e (fromBytes H N x c)
    | _, _, _ => false

/-! Loads, stores. -/
def ldA (C : Cx) (H : AH) (t : TypeId) (a : AV) (c : Kv) : Bool := match a with
  | .ptr i o => H.cells i fun vs _ _ => partA C t vs o c
  | _ => false
def stA (C : Cx) (H : AH) (t : TypeId) (a x : AV) (c : AH → Bool) : Bool := match a with
  | .ptr i o => H.cells i fun vs ext pl => cellsOf x fun xs => C.size t fun n => lenL xs 0 fun m => match Nat.beq n m with
    | true => wrK o vs xs fun vs' => Tr.set H i (some (.cells vs' ext pl)) c
    | false => false
  | _ => false

/-! Aggregates. -/
def fieldNth (l : List Field) (i : Nat) (k : Field → Bool) : Bool := Nat.rec (motive := fun _ => List Field → Bool) (fun l => List.rec (motive := fun _ => Bool) false (fun f _ _ => k f) l) (fun _ ih l => List.rec (motive := fun _ => Bool) false (fun _ r _ => ih r) l) i l
def fieldAt? (fs : Array Field) (i : Nat) (k : Field → Bool) : Bool := fieldNth fs.toList i k
def fillS (C : Cx) (fs : Array Field) : List AV → List (Nat × AV) → (List AV → Bool) → Bool
  | cells, [], k => k cells
  | cells, (i, v) :: r, k => fieldAt? fs i fun f => C.size f.type fun n => cellsOf v fun xs => lenL xs 0 fun m => match Nat.beq n m with
    | true => wrK f.offset cells xs fun cells => fillS C fs cells r k
    | false => false
def fillN (n : Nat) : List AV → List (Nat × AV) → (List AV → Bool) → Bool
  | cells, [], k => k cells
  | cells, (i, v) :: r, k => cellsOf v fun xs => lenL xs 0 fun m => match Nat.beq n m with
    | true => wrK (Nat.mul i n) cells xs fun cells => fillN n cells r k
    | false => false
def evP (l : List (Nat × Operand)) : Tr AV → (List (Nat × AV) → Bool) → Bool := List.rec (fun _ k => k []) (fun x _ ih T k => ev x.2 T fun v => ih T fun l => k ((x.1, v) :: l)) l
def buildA (C : Cx) (t : TypeId) (ps : List (Nat × AV)) (c : Kv) : Bool := C.zero t fun z => match z with
  | .agg zs => C.under t fun u => match u with
    | .struct fs => fillS C fs zs ps fun l => c (.agg l)
    | .array _ e => C.size e fun n => fillN n zs ps fun l => c (.agg l)
    | _ => false
  | _ => false
/-- n times a list -/
def timesK : Nat → List AV → (List AV → Bool) → Bool
  | 0, _, k => k []
  | n + 1, zs, k => timesK n zs fun l => catK zs l k
def buildSliceA (C : Cx) (H : AH) (N : Nat) (t : TypeId) (len : Nat) (ps : List (Nat × AV)) (c : Kop) : Bool := C.under t fun u => match u with
  | .slice e => C.size e fun n => match Nat.ble (Nat.mul len n) 16777216 with
    | true => C.zero e fun z => cellsOf z fun zs => lenL zs 0 fun m => match Nat.beq n m with
      | true => timesK len zs fun l => fillN n l ps fun l => newCells H N l 0 true fun H' N' => c (.val (.slice N 0 len len)) H' N'
      | false => false
    | false => false
  | _ => false

/-! Indexes and slices. -/
def indexAddrA (C : Cx) (t : TypeId) (x ix : AV) (c : Kv) : Bool := asNat ix fun _ i => C.under t fun u => match u, x with
  | .array n e, .ptr id o => match Nat.ble (Nat.succ i) n with
    | true => C.size e fun s => fzNat (Nat.add o (Nat.mul i s)) fun o => c (.ptr id o)
    | false => false
  | .slice e, .slice id o n _ => match Nat.ble (Nat.succ i) n with
    | true => C.size e fun s => fzNat (Nat.add o (Nat.mul i s)) fun o => c (.ptr id o)
    | false => false
  | .slice e, .slicex id o n _ _ => match Nat.ble (Nat.succ i) n with
    | true => C.size e fun s => fzNat (Nat.add o (Nat.mul i s)) fun o => c (.ptr id o)
    | false => false
  | _, _ => false
def nthN : List Nat → Nat → (Nat → Bool) → Bool
  | [], _, _ => false
  | x :: _, 0, k => k x
  | _ :: r, i + 1, k => nthN r i k
def indexA (C : Cx) (t : TypeId) (x ix : AV) (c : Kv) : Bool := asNat ix fun _ i => C.under t fun u => match u, x with
  | .array n e, .agg cs => match Nat.ble (Nat.succ i) n with
    | true => C.size e fun s => fzNat (Nat.mul i s) fun o => partA C e cs o c
    | false => false
  | .string, .str s => nthN s i fun b => match Nat.ble b 255 with
    | true => c (.int .u8 (.ofNat b))
    | false => false
  | _, _ => false
/-- a bound, that is at most m; none: d -/
def bound (x : Option AV) (d m : Nat) (k : Nat → Bool) : Bool := match x with
  | none => k d
  | some v => asNat v fun _ i => match Nat.ble i m with
    | true => k i
    | false => false
def dropN : Nat → List Nat → List Nat
  | 0, l => l
  | _ + 1, [] => []
  | n + 1, _ :: r => dropN n r
def takeN : Nat → List Nat → (List Nat → Bool) → Bool
  | 0, _, k => k []
  | _ + 1, [], _ => false
  | n + 1, x :: r, k => takeN n r fun l => k (x :: l)
def cutA (H : AH) (N : Nat) (id o s h l m : Nat) (c : Kop) : Bool := match Nat.beq m l with
  | true => c (.val (.slice id o 0 0)) H N
  | false => fzNat (Nat.add o (Nat.mul l s)) fun o => fzNat (Nat.sub h l) fun n => fzNat (Nat.sub m l) fun m => c (.val (.slice id o n m)) H N
def slice2 (C : Cx) (H : AH) (N : Nat) (u : TypeDesc) (x : AV) (lo hi : Option AV) (c : Kop) : Bool := match u, x with
  | .string, .str s => lenN s 0 fun n => bound hi n n fun h => bound lo 0 h fun l => takeN (Nat.sub h l) (dropN l s) fun r => c (.val (.str r)) H N
  | .slice e, .nils => bound hi 0 0 fun h => bound lo 0 h fun _ => C.size e fun _ => c (.val .nils) H N
  | .slice e, .slice id o n cap => bound hi n cap fun h => bound lo 0 h fun l => C.size e fun s => cutA H N id o s h l cap c
  | .slice e, .slicex id o n y d => bound hi n n fun h => bound lo 0 h fun l => C.size e fun s => match Nat.ble (Nat.succ l) n with
    | true => fzNat (Nat.add o (Nat.mul l s)) fun o => fzNat (Nat.sub h l) fun n => fzNat (Nat.add d l) fun d => c (.val (.slicex id o n y d)) H N
    | false => match l with
      | 0 => c (.val x) H N
      | _ + 1 => fzNat (Nat.succ N) fun N' => c (.val (.slicex N 0 0 N 0)) H N'
  | .array n e, .ptr id o => bound hi n n fun h => bound lo 0 h fun l => C.size e fun s => cutA H N id o s h l n c
  | _, _ => false
def slice3 (C : Cx) (H : AH) (N : Nat) (u : TypeDesc) (x : AV) (lo : Option AV) (hi mx : AV) (c : Kop) : Bool := match u, x with
  | .slice e, .slice id o n cap => bound (some mx) 0 cap fun m => bound (some hi) n m fun h => bound lo 0 h fun l => C.size e fun s => cutA H N id o s h l m c
  | .slice e, .slicex id o n _ _ => bound (some mx) 0 n fun m => bound (some hi) n m fun h => bound lo 0 h fun l => C.size e fun s => cutA H N id o s h l m c
  | _, _ => false
def sliceA (C : Cx) (H : AH) (N : Nat) (t : TypeId) (x : AV) (lo hi mx : Option AV) (c : Kop) : Bool := C.under t fun u => match mx with
  | none => slice2 C H N u x lo hi c
  | some mx => match hi with
    | some hi => slice3 C H N u x lo hi mx c
    | none => false
def makeSliceA (C : Cx) (H : AH) (N : Nat) (t : TypeId) (l cp : AV) (c : Kop) : Bool := C.under t fun u => match u with
  | .slice e => asNat l fun _ l => asNat cp fun _ cp => C.ty e fun i => match Nat.ble (Nat.mul i.info.bytes cp) 1000000000 with
    | true => match Nat.ble cp 1000000000 with
      | true => match Nat.ble l cp with
        | true => C.zero e fun z => cellsOf z fun zs => lenL zs 0 fun m => match Nat.beq i.size m with
          | true => timesK cp zs fun vs => newCells H N vs 0 true fun H' N' => c (.val (.slice N 0 l cp)) H' N'
          | false => false
        | false => false
      | false => false
    | false => false
  | _ => false

/-! Are two values written the same? -/
mutual
def sameV : AV → AV → Bool
  | .bool a, .bool b => match a with | true => b | false => Bool.not b
  | .int k a, .int j b => Bool.and (kEq k j) (eqI a b)
  | .float k a, .float j b => Bool.and (fEq k j) (Nat.beq a b)
  | .complex k a b, .complex j x y => Bool.and (fEq k j) (Bool.and (Nat.beq a x) (Nat.beq b y))
  | .str a, .str b => eqNats a b
  | .nilp, .nilp => true
  | .ptr i o, .ptr j p => Bool.and (Nat.beq i j) (Nat.beq o p)
  | .nils, .nils => true
  | .slice a b c d, .slice x y z w => Bool.and (Bool.and (Nat.beq a x) (Nat.beq b y)) (Bool.and (Nat.beq c z) (Nat.beq d w))
  | .slicex a b c d e, .slicex x y z w u => Bool.and (Bool.and (Bool.and (Nat.beq a x) (Nat.beq b y)) (Bool.and (Nat.beq c z) (Nat.beq d w))) (Nat.beq e u)
  | .nilm, .nilm => true
  | .map i, .map j => Nat.beq i j
  | .nilFunc, .nilFunc => true
  | .nilIface, .nilIface => true
  | .func (.func f) a b, .func (.func g) x y => Bool.and (Nat.beq f g) (Bool.and (sameL a x) (sameL b y))
  | .iface t v, .iface u w => Bool.and (Nat.beq t u) (sameV v w)
  | .agg a, .agg b => sameL a b
  | .tuple a, .tuple b => sameL a b
  | .atom i, .atom j => Nat.beq i j
  | _, _ => false
def sameL : List AV → List AV → Bool
  | [], [] => true
  | x :: r, y :: s => Bool.and (sameV x y) (sameL r s)
  | _, _ => false
end

/-! Maps. -/
/-- keys of one kind: equal? -/
def sameKey (u : TypeDesc) (a b : AV) (k : Bool → Bool) : Bool := match u, a, b with
  | .int _, .int i x, .int j y => match kEq i j with
    | true => fzBool (eqI x y) k
    | false => false
  | .string, .str x, .str y => eqStr x y k
  | .bool, .bool x, .bool y => fzBool (match x with | true => y | false => Bool.not y) k
  | _, _, _ => false
def findE (u : TypeDesc) (key : AV) : List AEnt → Nat → (Option (Nat × AEnt) → Bool) → Bool
  | [], _, k => k none
  | e :: es, i, k => sameKey u key e.key fun b => match b with
    | true => k (some (i, e))
    | false => findE u key es (Nat.succ i) k
/-- is a key a number, a text or a bool? -/
def plainKey (C : Cx) (t : TypeId) (v : AV) : Bool := C.under t fun u => match u, v with
  | .int _, .int _ _ => true
  | .string, .str _ => true
  | .bool, .bool _ => true
  | _, _ => false
/-- parts of a key -/
def plainParts (C : Cx) (cs : List AV) : List Field → Bool
  | [] => true
  | f :: r => partA C f.type cs f.offset fun v => match plainKey C f.type v with
    | true => plainParts C cs r
    | false => false
/-- is a key a struct of numbers, texts and bools? -/
def structKey (C : Cx) (t : TypeId) (v : AV) : Bool := C.under t fun u => match u, v with
  | .struct fs, .agg cs => plainParts C cs fs.toList
  | _, _ => false
def findS (C : Cx) (H : AH) (kt : TypeId) (key : AV) : List AEnt → Nat → (Option (Nat × AEnt) → Bool) → Bool
  | [], _, k => k none
  | e :: es, i, k => eqV C H 40 kt key e.key fun b => match b with
    | true => k (some (i, e))
    | false => findS C H kt key es (Nat.succ i) k
/-- a key is looked for -/
def findAny (C : Cx) (H : AH) (kt : TypeId) (key : AV) (es : List AEnt) (k : Option (Nat × AEnt) → Bool) : Bool := match plainKey C kt key with
  | true => C.under kt fun uk => findE uk key es 0 k
  | false => match structKey C kt key with
    | true => findS C H kt key es 0 k
    | false => false
def plainV : AV → Bool
  | .bool _ => true
  | .int _ _ => true
  | .str _ => true
  | _ => false
def plainVs : List AV → Bool
  | [] => true
  | v :: r => match plainV v with
    | true => plainVs r
    | false => false
def plainAgg : AV → Bool
  | .agg cs => plainVs cs
  | _ => false
/-- the key that stays -/
def staysA (C : Cx) (kt : TypeId) (old key : AV) (k : Bool) : Bool := match plainKey C kt key with
  | true => k
  | false => match sameV old key with
    | true => match plainAgg key with
      | true => k
      | false => false
    | false => false
def AH.mapOf (H : AH) (id : Nat) (k : List AEnt → Nat → Bool) : Bool := Tr.get H id fun o => match o with
  | .map es cl => k es cl
  | _ => false
def lookOut (ok : Bool) (c : Kv) (v : AV) (b : Bool) : Bool := match ok with
  | true => c (.tuple [v, .bool b])
  | false => c v
def lookupA (C : Cx) (H : AH) (t : TypeId) (x key : AV) (ok : Bool) (c : Kv) : Bool := C.under t fun u => match u with
  | .map kt et => match x with
    | .nilm => findAny C H kt key [] fun _ => C.zero et fun z => lookOut ok c z false
    | .map id => H.mapOf id fun es _ => findAny C H kt key es fun r => match r with
      | some (_, e) => lookOut ok c e.val true
      | none => C.zero et fun z => lookOut ok c z false
    | _ => false
  | _ => false
def setE : List AEnt → Nat → AEnt → (List AEnt → Bool) → Bool
  | [], _, _, _ => false
  | _ :: r, 0, e, k => k (e :: r)
  | x :: r, i + 1, e, k => setE r i e fun l => k (x :: l)
def pushE : List AEnt → AEnt → (List AEnt → Bool) → Bool
  | [], e, k => k [e]
  | x :: r, e, k => pushE r e fun l => k (x :: l)
def delE : List AEnt → Nat → (List AEnt → Bool) → Bool
  | [], _, _ => false
  | _ :: r, 0, k => k r
  | x :: r, i + 1, k => delE r i fun l => k (x :: l)
def mapUpdateA (C : Cx) (H : AH) (t : TypeId) (m key v : AV) (c : AH → Bool) : Bool := C.under t fun u => match u with
  | .map kt _ => match m with
    | .map id => H.mapOf id fun es cl => findAny C H kt key es fun r => match r with
      | some (i, e) => staysA C kt e.key key (setE es i ⟨key, v, e.born⟩ fun es => Tr.set H id (some (.map es cl)) c)
      | none => pushE es ⟨key, v, cl⟩ fun es => fzNat (Nat.succ cl) fun cl => Tr.set H id (some (.map es cl)) c
    | _ => false
  | _ => false
def deleteA (C : Cx) (H : AH) (t : TypeId) (m key : AV) (c : AH → Bool) : Bool := C.under t fun u => match u with
  | .map kt _ => match m with
    | .nilm => findAny C H kt key [] fun _ => c H
    | .map id => H.mapOf id fun es cl => findAny C H kt key es fun r => match r with
      | some (i, _) => delE es i fun es => Tr.set H id (some (.map es cl)) c
      | none => c H
    | _ => false
  | _ => false
def mapEntryA (C : Cx) (H : AH) (t : TypeId) (m key : AV) (c : AV → AH → Bool) : Bool := C.under t fun u => match u with
  | .map kt et => match m with
    | .map id => H.mapOf id fun es cl => findAny C H kt key es fun r => match r with
      | some (i, e) => staysA C kt e.key key (setE es i ⟨key, e.val, e.born⟩ fun es => Tr.set H id (some (.map es cl)) fun H => c (.tuple [e.val, .int .i64 (.ofNat e.born)]) H)
      | none => C.zero et fun z => pushE es ⟨key, z, cl⟩ fun es => fzNat (Nat.succ cl) fun cl' => Tr.set H id (some (.map es cl')) fun H => c (.tuple [z, .int .i64 (.ofNat cl)]) H
    | _ => false
  | _ => false
def bornAt : List AEnt → Nat → Nat → (Nat → AEnt → Bool) → Bool
  | [], _, _, _ => false
  | e :: r, b, i, k => match Nat.beq e.born b with
    | true => k i e
    | false => bornAt r b (Nat.succ i) k
def entryStoreA (H : AH) (m s v : AV) (c : AH → Bool) : Bool := match m with
  | .map id => H.mapOf id fun es cl => asNat s fun _ b => bornAt es b 0 fun i e => setE es i ⟨e.key, v, e.born⟩ fun es => Tr.set H id (some (.map es cl)) c
  | _ => false
end
end Go.Proofs.YthidihigidchgaaGreatDoor.Sy

namespace Go.Proofs.YthidihigidchgaaGreatDoor.Sy
noncomputable section

/-! Builtins. -/
def lenA (C : Cx) (H : AH) (t : TypeId) (x : AV) (c : Kv) : Bool := C.under t fun u => match u, x with
  | .string, .str s => lenN s 0 fun n => c (.int .i64 (.ofNat n))
  | .array n _, _ => c (.int .i64 (.ofNat n))
  | .slice _, .nils => c (.int .i64 (.ofNat 0))
  | .slice _, .slice _ _ n _ => c (.int .i64 (.ofNat n))
  | .slice _, .slicex _ _ n _ _ => c (.int .i64 (.ofNat n))
  | .map _ _, .nilm => c (.int .i64 (.ofNat 0))
  | .map _ _, .map id => H.mapOf id fun es _ => fzNat es.length fun n => c (.int .i64 (.ofNat n))
  | _, _ => false
/-- the cells of what is appended, and how many elements they are -/
def tailK (H : AH) (size : Nat) (x : AV) (k : List AV → Nat → Bool) : Bool := match x with
  | .nils => k [] 0
  | .slice i o n _ => H.cells i fun vs _ _ => rdK vs o (Nat.mul n size) fun l => fzNat n fun n => k l n
  | .slicex i o n _ _ => H.cells i fun vs _ _ => rdK vs o (Nat.mul n size) fun l => fzNat n fun n => k l n
  | .str s => match allBytes s with
    | true => bytesAV s fun l => lenN s 0 fun n => k l n
    | false => false
  | _ => false
def small (n : Nat) (bytes : Nat) : Bool := Bool.and (Nat.ble n 1000000000) (Nat.ble bytes 10000)
/-- a new row: what was there, and what is appended -/
def growA (H : AH) (N : Nat) (size bytes cap need : Nat) (plain : Bool) (old new : List AV) (c : Kop) : Bool := match Bool.and (small need bytes) (small cap 0) with
  | true => catK old new fun l => newCells H N l size plain fun H' N' => c (.val (.slicex N 0 need N 0)) H' N'
  | false => false
def appendTo (H : AH) (N : Nat) (size bytes : Nat) (s : AV) (new : List AV) (n : Nat) (c : Kop) : Bool := match s with
  | .nils => match n with
    | 0 => c (.val .nils) H N
    | n + 1 => growA H N size bytes 0 (Nat.succ n) true [] new c
  | .slice id o len cap => fzNat (Nat.add len n) fun need => match Nat.ble need cap with
    | true => match n with
      | 0 => c (.val (.slice id o len cap)) H N
      | _ + 1 => AH.cells H id fun vs ext pl => wrK (Nat.add o (Nat.mul len size)) vs new fun vs' => Tr.set H id (some (.cells vs' ext pl)) fun H' => c (.val (.slice id o need cap)) H' N
    | false => match len with
      | 0 => growA H N size bytes cap need true [] new c
      | _ + 1 => AH.cells H id fun vs _ _ => rdK vs o (Nat.mul len size) fun old => growA H N size bytes cap need true old new c
  | .slicex id o len y d => match n with
    | 0 => c (.val (.slicex id o len y d)) H N
    | _ + 1 => fzNat (Nat.add len n) fun need => match Bool.and (Nat.beq y id) (Nat.beq o (Nat.mul d size)) with
      | true => AH.cells H id fun vs ext _ => match Nat.beq ext size with
        | true => rdK vs o (Nat.mul len size) fun old => Tr.set H id none fun H => growA H N size bytes 0 need false old new c
        | false => false
      | false => false
  | _ => false
def appendA (C : Cx) (H : AH) (N : Nat) (t tx : TypeId) (s x : AV) (c : Kop) : Bool := C.under tx fun ux => match ux with
  | .int _ => false
  | _ => C.under t fun u => match u with
    | .slice e => C.ty e fun i => C.zero e fun z => cellsOf z fun zs => lenL zs 0 fun zm => match Nat.beq i.size zm with
      | false => false
      | true => tailK H i.size x fun new n => lenL new 0 fun m => match Nat.beq m (Nat.mul n i.size) with
        | false => false
        | true => match Nat.beq i.size 0 with
          | true => false
          | false => appendTo H N i.size i.info.bytes s new n c
    | _ => false
def maxA (x y : AV) (c : Kv) : Bool := match x, y with
  | .int k a, .int j b => match kEq k j with
    | true => match ltI a b with
      | true => c (.int k b)
      | false => c (.int k a)
    | false => false
  | _, _ => false
def maxL (x : AV) : List AV → Kv → Bool
  | [], c => c x
  | y :: r, c => maxA x y fun z => maxL z r c
def minA (x y : AV) (c : Kv) : Bool := match x, y with
  | .int k a, .int j b => match kEq k j with
    | true => match ltI b a with
      | true => c (.int k b)
      | false => c (.int k a)
    | false => false
  | _, _ => false
def minL (x : AV) : List AV → Kv → Bool
  | [], c => c x
  | y :: r, c => minA x y fun z => minL z r c
/-- the first cells become zeros -/
def zerosA (C : Cx) (H : AH) (e : TypeId) (id o n : Nat) (c : AH → Bool) : Bool := C.zero e fun z => cellsOf z fun zs => timesK n zs fun new => AH.cells H id fun vs ext pl => wrK o vs new fun vs' => Tr.set H id (some (.cells vs' ext pl)) c
def clearA (C : Cx) (H : AH) (t : TypeId) (x : AV) (c : AH → Bool) : Bool := C.under t fun u => match u, x with
  | _, .nilm => c H
  | _, .map id => H.mapOf id fun _ cl => Tr.set H id (some (.map [] cl)) c
  | _, .nils => c H
  | .slice e, .slice id o n _ => match n with
    | 0 => c H
    | n + 1 => zerosA C H e id o (Nat.succ n) c
  | .slice e, .slicex id o n _ _ => match n with
    | 0 => c H
    | n + 1 => zerosA C H e id o (Nat.succ n) c
  | _, _ => false
def builtinA (C : Cx) (H : AH) (N : Nat) (b : Builtin) (at_ : List TypeId) (args : List AV) (c : Kop) : Bool :=
  let v (v : AV) : Bool := c (.val v) H N
  match b, at_, args with
  | .append, [t, tx], [s, x] => appendA C H N t tx s x c
  | .len, t :: _, [x] => lenA C H t x v
  | .delete, t :: _, [m, k] => deleteA C H t m k fun H => c (.val (.tuple [])) H N
  | .clear, t :: _, [x] => clearA C H t x fun H => c (.val (.tuple [])) H N
  | .max, _, x :: r => maxL x r v
  | .min, _, x :: r => minL x r v
  | .real, _, [.complex k a _] => v (.float k a)
  | .imag, _, [.complex k _ b] => v (.float k b)
  | .recover, _, [] => c .rcv H N
  | _, _, _ => false

/-! Iterators over maps. -/
def rangeA (C : Cx) (H : AH) (N : Nat) (t : TypeId) (x : AV) (c : Kop) : Bool := C.under t fun u => match u, x with
  | .map _ _, .nilm => newObj H N (.mapIter none 0 [] 0) fun H' N' => c (.val (.ptr N 0)) H' N'
  | .map _ _, .map id => H.mapOf id fun _ cl => newObj H N (.mapIter (some id) cl [] cl) fun H' N' => c (.val (.ptr N 0)) H' N'
  | _, _ => false
def hasN : List Nat → Nat → Bool
  | [], _ => false
  | x :: r, n => match Nat.beq x n with
    | true => true
    | false => hasN r n
/-- the entries that were not seen -/
def leftE (seen : List Nat) : List AEnt → (List AEnt → Bool) → Bool
  | [], k => k []
  | e :: r, k => match hasN seen e.born with
    | true => leftE seen r k
    | false => leftE seen r fun l => k (e :: l)
def allBefore (n : Nat) : List AEnt → Bool
  | [] => true
  | e :: r => match Nat.ble (Nat.succ e.born) n with
    | true => allBefore n r
    | false => false
def pushN : List Nat → Nat → (List Nat → Bool) → Bool
  | [], n, k => k [n]
  | x :: r, n, k => pushN r n fun l => k (x :: l)
def lastN : List Nat → (Nat → Bool) → Bool
  | [], _ => false
  | [b], k => k b
  | _ :: b :: r, k => lastN (b :: r) k
/-- an entry that is left is handed out -/
def giveE (H : AH) (id m since cl : Nat) (seen : List Nat) (e : AEnt) (k : AV → AH → Bool) : Bool := pushN seen e.born fun seen => Tr.set H id (some (.mapIter (some m) since seen cl)) fun H' => k (.tuple [.bool true, e.key, e.val]) H'
/-- a map of which at most one entry is left, or two at the beginning -/
def nextA (H : AH) (N : Nat) (it : AV) (isStr : Bool) (c : Kop) : Bool := match it, isStr with
  | .ptr id 0, false => Tr.get H id fun o => match o with
    | .mapIter none _ _ _ => c (.val (.tuple [.bool false])) H N
    | .mapIter (some m) since seen last => H.mapOf m fun es cl => match Bool.and (Nat.ble since last) (allBefore since es) with
      | true => leftE seen es fun l => match l with
        | [] => c (.val (.tuple [.bool false])) H N
        | [e] => giveE H id m since cl seen e fun v H' => c (.val v) H' N
        | [_, _] => c (.either id) H N
        | _ => false
      | false => false
    | _ => false
  | _, _ => false
/-- one of two entries, whichever -/
def eitherK (H : AH) (id : Nat) (k : AV → AH → AV → AH → Bool) : Bool := Tr.get H id fun o => match o with
  | .mapIter (some m) since seen last => H.mapOf m fun es cl => match Bool.and (Nat.ble since last) (allBefore since es) with
    | true => leftE seen es fun l => match l with
      | [x, y] => giveE H id m since cl seen x fun v1 H1 => giveE H id m since cl seen y fun v2 H2 => k v1 H1 v2 H2
      | _ => false
    | false => false
  | _ => false
def entryA (H : AH) (it : AV) (c : Kv) : Bool := match it with
  | .ptr id 0 => Tr.get H id fun o => match o with
    | .mapIter (some m) _ seen st => lastN seen fun b => H.mapOf m fun es cl => match Nat.beq cl st with
      | true => bornAt es b 0 fun _ e => c (.tuple [e.key, e.val])
      | false => false
    | _ => false
  | _ => false

/-! Interfaces. -/
def holdsA (ok : Bool) (c : Kv) (v : AV) : Bool := match ok with
  | true => c (.tuple [v, .bool true])
  | false => c v
def failsA (C : Cx) (asserted : TypeId) (ok : Bool) (c : Kv) : Bool := match ok with
  | true => C.zero asserted fun z => c (.tuple [z, .bool false])
  | false => false
/-- is the dynamic type the one that is asked for? no interfaces are asked for -/
def assertA (C : Cx) (x : AV) (asserted : TypeId) (ok : Bool) (c : Kv) : Bool := C.under asserted fun u => match u, x with
  | .interface _, _ => false
  | _, .nilIface => failsA C asserted ok c
  | _, .iface t v => match Nat.beq t asserted with
    | true => holdsA ok c v
    | false => failsA C asserted ok c
  | _, _ => false

/-! Calls. -/
def idxN : List Nat → Nat → Nat → Kv → Bool
  | [], _, _, k => k (.int .i64 (.negSucc 0))
  | x :: r, c, i, k => match Nat.beq x c with
    | true => k (.int .i64 (.ofNat i))
    | false => fzNat (Nat.succ i) fun i => idxN r c i k
def extA (e : Ext) (args : List AV) (k : Kv) : Bool := match e, args with
  | .idxByte, [.str s, .int .u8 (.ofNat c)] => match allBytes s with
    | true => match Nat.ble c 255 with
      | true => idxN s c 0 k
      | false => false
    | false => false
  | .f64bits, [.float .f64 b] => k (.int .u64 (.ofNat b))
  | _, _ => false
def callFuncA (C : Cx) (H : AH) (N : Nat) (f : FuncId) (args : List AV) (c : Kop) : Bool := Tr.get C.fns f fun fn => match fn.body with
  | some _ => c (.enter f args) H N
  | none => Tr.get C.exts f fun e => extA e args fun v => c (.val v) H N
def appL : List AV → List AV → (List AV → Bool) → Bool
  | [], ys, k => k ys
  | x :: xs, ys, k => appL xs ys fun l => k (x :: l)
def isIface (C : Cx) (t : TypeId) (k : Bool → Bool) : Bool := C.under t fun u => match u with
  | .interface _ => k true
  | _ => k false
def invokeA (C : Cx) (H : AH) (N : Nat) (t : ATgt) (args : List AV) (c : Kop) : Bool := match t with
  | .builtin b at_ _ _ => builtinA C H N b at_.toList args c
  | .yield l => c (.round l args) H N
  | .collected _ => false
  | .fn fn cap => match fn with
    | .func f => appL args cap fun l => callFuncA C H N f l c
    | _ => false
def isC : Operand → Bool
  | .const _ => true
  | _ => false
def resolveA (T : Tr AV) (cl : Call) (type : TypeId) (k : ADef → Bool) : Bool := evL cl.args.toList T fun args => match cl.callee with
  | .builtin b => k ⟨.builtin b cl.argTypes type (cl.args.map isC), args⟩
  | .invoke _ _ => false
  | .value f => ev f T fun f => match f with
    | .func fn first cap => appL first args fun args => k ⟨.fn fn cap, args⟩
    | .yield l => k ⟨.yield l, args⟩
    | _ => false

end
end Go.Proofs.YthidihigidchgaaGreatDoor.Sy

namespace Go.Proofs.YthidihigidchgaaGreatDoor.Sy
noncomputable section

/-! Operations. -/
abbrev Fop := Cx → Tr AV → AH → Nat → TypeId → Kop → Bool
def noOp : Fop := fun _ _ _ _ _ _ => false
def giveV (H : AH) (N : Nat) (c : Kop) (v : AV) : Bool := c (.val v) H N
def opMove (x : Operand) : Fop := fun _ T H N _ c => ev x T (giveV H N c)
def pickA (a b : Operand) (T : Tr AV) (H : AH) (N : Nat) (c : Kop) (v : AV) : Bool := match v with
  | .bool true => ev a T (giveV H N c)
  | .bool false => ev b T (giveV H N c)
  | _ => false
def opPick (x a b : Operand) : Fop := fun _ T H N _ c => ev x T (pickA a b T H N c)
def newPtr (H : AH) (N : Nat) (c : Kop) (zs : List AV) : Bool := newCells H N zs 0 true (c (.val (.ptr N 0)))
def newOf (H : AH) (N : Nat) (c : Kop) (v : AV) : Bool := cellsOf v (newPtr H N c)
def opAlloc (e : TypeId) : Fop := fun C _ H N _ c => C.zero e (newOf H N c)
def opBox (_ : TypeId) (x : Operand) : Fop := fun _ T H N _ c => ev x T (newOf H N c)
def opBuild (t : TypeId) (ps : Array (Nat × Operand)) : Fop := fun C T H N _ c => evP ps.toList T fun ps => buildA C t ps (giveV H N c)
def opBuildSlice (t : TypeId) (n : Nat) (ps : Array (Nat × Operand)) : Fop := fun C T H N _ c => evP ps.toList T fun ps => buildSliceA C H N t n ps c
def opLoad (t : TypeId) (a : Operand) : Fop := fun C T H N _ c => ev a T fun a => ldA C H t a (giveV H N c)
def opStore (t : TypeId) (a x : Operand) : Fop := fun C T H N _ c => ev a T fun a => ev x T fun x => stA C H t a x fun H' => c .skip H' N
def nilChk (H : AH) (N : Nat) (c : Kop) (v : AV) : Bool := match v with
  | .ptr _ _ => c (.val v) H N
  | .func (.func _) _ _ => c (.val v) H N
  | .iface _ _ => c (.val v) H N
  | _ => false
def opNilCheck (x : Operand) : Fop := fun _ T H N _ c => ev x T (nilChk H N c)
def opBin (op : BinOp) (t : TypeId) (x y : Operand) (_ : TypeId) : Fop := fun C T H N _ c => ev x T fun a => ev y T fun b => binA C H op t x y a b (giveV H N c)
def opUn (op : UnOp) (_ : TypeId) (x : Operand) : Fop := fun _ T H N _ c => ev x T fun a => unA op a (giveV H N c)
def opConv (s d : TypeId) (x : Operand) : Fop := fun C T H N _ c => ev x T fun a => convA C H N s d a c
def opIface (t : TypeId) (x : Operand) : Fop := fun C T H N _ c => ev x T fun a => isIface C t fun b => match b with
  | true => false
  | false => c (.val (.iface t a)) H N
def opFunc (fn : Fn) (first cap : Array Operand) : Fop := fun _ T H N _ c => match fn with
  | .yield _ => false
  | _ => evL first.toList T fun a => evL cap.toList T fun b => c (.val (.func fn a b)) H N
def newMap (H : AH) (N : Nat) (c : Kop) : Bool := newObj H N (.map [] 0) (c (.val (.map N)))
def opMap (t : TypeId) (r : Option Operand) : Fop := fun C T H N _ c => match r with
  | none => newMap H N c
  | some x => ev x T fun v => match v with
    | .int _ _ => C.under t fun u => match u with
      | .map _ _ => newMap H N c
      | _ => false
    | _ => false
def opMakeSlice (t : TypeId) (l cp : Operand) : Fop := fun C T H N _ c => ev l T fun l => ev cp T fun cp => makeSliceA C H N t l cp c
def opSlice (t : TypeId) (x : Operand) (lo hi mx : Option Operand) : Fop := fun C T H N _ c =>
  ev x T fun x => evO lo T fun lo => evO hi T fun hi => evO mx T fun mx => sliceA C H N t x lo hi mx c
def fieldPtr (C : Cx) (id o : Nat) (c : Kv) (f : Field) : Bool := C.size f.type fun n => Nat.rec false (fun _ _ => fzNat (Nat.add o f.offset) fun o => c (.ptr id o)) n
def fieldAddrA (C : Cx) (s : TypeId) (f : Nat) (c : Kv) (x : AV) : Bool := C.under s fun u => match u, x with
  | .struct fs, .ptr id o => fieldAt? fs f (fieldPtr C id o c)
  | _, _ => false
def opFieldAddr (s : TypeId) (x : Operand) (f : Nat) : Fop := fun C T H N _ c => ev x T (fieldAddrA C s f (giveV H N c))
def fieldA (C : Cx) (s : TypeId) (f : Nat) (c : Kv) (x : AV) : Bool := C.under s fun u => match u, x with
  | .struct fs, .agg cs => fieldAt? fs f fun f => partA C f.type cs f.offset c
  | _, _ => false
def opField (s : TypeId) (x : Operand) (f : Nat) : Fop := fun C T H N _ c => ev x T (fieldA C s f (giveV H N c))
def opIndexAddr (t : TypeId) (x ix : Operand) : Fop := fun C T H N _ c => ev x T fun x => ev ix T fun ix => indexAddrA C t x ix (giveV H N c)
def opIndex (t : TypeId) (x ix : Operand) : Fop := fun C T H N _ c => ev x T fun x => ev ix T fun ix => indexA C t x ix (giveV H N c)
def opLookup (t : TypeId) (x ix : Operand) (ok : Bool) : Fop := fun C T H N _ c => ev x T fun x => ev ix T fun ix => lookupA C H t x ix ok (giveV H N c)
def opMapUpdate (t : TypeId) (m k x : Operand) : Fop := fun C T H N _ c => ev m T fun m => ev k T fun k => ev x T fun x => mapUpdateA C H t m k x fun H' => c .skip H' N
def opMapEntry (t : TypeId) (m k : Operand) : Fop := fun C T H N _ c => ev m T fun m => ev k T fun k => mapEntryA C H t m k fun v H' => c (.val v) H' N
def opEntryStore (_ : TypeId) (m s x : Operand) : Fop := fun _ T H N _ c => ev m T fun m => ev s T fun s => ev x T fun x => entryStoreA H m s x fun H' => c .skip H' N
def opRange (t : TypeId) (x : Operand) : Fop := fun C T H N _ c => ev x T fun x => rangeA C H N t x c
def opNext (it : Operand) (s : Bool) : Fop := fun _ T H N _ c => ev it T fun it => nextA H N it s c
def opEntry (it : Operand) : Fop := fun _ T H N _ c => ev it T fun it => entryA H it (giveV H N c)
def opAssert (x : Operand) (_ t : TypeId) (ok : Bool) : Fop := fun C T H N _ c => ev x T fun x => assertA C x t ok (giveV H N c)
def panicA (H : AH) (N : Nat) (c : Kop) (v : AV) : Bool := match v with
  | .iface _ _ => c (.pnc v) H N
  | _ => false
def opPanic (x : Operand) : Fop := fun _ T H N _ c => ev x T (panicA H N c)
def opExtract (t : Operand) (i : Nat) : Fop := fun _ T H N _ c => ev t T fun t => match t with
  | .tuple vs => rd1 vs i (giveV H N c)
  | _ => false
def opCall (cl : Call) : Fop := fun C T H N ty c => resolveA T cl ty fun d => invokeA C H N d.target d.args c
def opDefer (cl : Call) : Fop := fun _ T H N ty c => resolveA T cl ty fun d => c (.dfr d) H N
def opA (o : Op) : Fop := Op.rec (motive := fun _ => Fop) opMove opMove opPick opAlloc opBox opBuild opBuildSlice opMapUpdate opLoad opStore (fun _ => noOp) (fun _ => noOp) opNilCheck opBin opUn opConv
  (fun _ _ => noOp) opIface opFunc opMap (fun _ _ => noOp) opMakeSlice opSlice opFieldAddr opField opIndexAddr opIndex opLookup opMapUpdate opMapEntry opEntryStore
  opRange opNext opEntry opAssert opExtract opCall (fun _ => noOp) opDefer opPanic (fun _ _ => noOp) (fun _ _ _ => noOp) (fun _ _ => noOp) o

/-! The frame machine. -/
inductive AItem where
  | code (c : Code)
  | inBlock (id : Nat)
  | inLoop (body : Code)
  | inScope (body : Code)
  | inRegion (all rest : List Oper)
  | endRangeFunc (l : Nat)
  | beginRound
/-- what is left to do; or the frame is being left; or it is being left by a panic -/
inductive Pos where
  | go (todo : List AItem)
  | unw
  | pan (v : AV)
/-- how a call ends -/
inductive AEnd where
  | ret (v : AV)
  | pan (v : AV)
/-- the end: what is given back, was the caller's panic recovered, memory, the next name -/
abbrev Kend := AEnd → Bool → AH → Nat → Bool
/-- a frame, but for its temporaries and its place: function, how many temporaries, the round of which loop, deferred calls, the caller's panic that may be recovered, is one recovered, who goes on -/
structure MF where
  fn : FuncId
  nt : Nat
  ro : Option Nat
  ds : List ADef
  rc : Option AV
  rcd : Bool
  k : Kend
abbrev Krun := MF → Tr AV → Pos → AH → Nat → Bool

def exitToA (id : Nat) (todo : List AItem) (c : List AItem → Bool) (no : Bool) : Bool := match todo with
  | [] => no
  | .inBlock j :: k => match Nat.beq j id with
    | true => c k
    | false => exitToA id k c no
  | _ :: k => exitToA id k c no
def gotoInA (l : Nat) (todo : List AItem) (c : List AItem → Bool) (no : Bool) : Bool := match todo with
  | [] => no
  | .inScope body :: k => match findLabel body l with
    | some rest => c (.code rest :: .inScope body :: k)
    | none => gotoInA l k c no
  | _ :: k => gotoInA l k c no

/-- a value is laid into a temporary -/
def put (T : Tr AV) (nt : Nat) (d : Option Tmp) (v : AV) (k : Tr AV → Bool) : Bool :=
  Option.rec (motive := fun _ => Bool) (k T) (fun d => Bool.rec false (Tr.set T d (some v) k) (Nat.ble (Nat.succ d) nt)) d
def nthO : List Oper → Nat → (Oper → Bool) → Bool
  | [], _, _ => false
  | o :: _, 0, k => k o
  | _ :: r, i + 1, k => nthO r i k
def wantB (want : Bool) (k : Bool → Bool) (v : AV) : Bool := match v with
  | .bool b => match b, want with
    | true, true => k true
    | false, false => k true
    | _, _ => k false
  | .tuple [] => k false
  | _ => false
def wantG (T : Tr AV) (all : List Oper) (k : Bool → Bool) (g : Nat × Bool) : Bool := nthO all g.1 fun o => match o.dst with
  | none => false
  | some d => Tr.get T d (wantB g.2 k)
/-- is an operation wanted? -/
def wantedA (T : Tr AV) (all : List Oper) (o : Oper) (k : Bool → Bool) : Bool := Option.rec (motive := fun _ => Bool) (k true) (wantG T all k) o.guard
def enterB (args : List AV) (f : FuncId) (fn : Func) (k : FuncId → Nat → Tr AV → Code → Bool) (b : Code) : Bool := lenL args 0 fun n =>
  Bool.rec false (Tr.ofList args 0 .e fun T => fzNat fn.ntmps fun nt => k f nt T b) (Nat.ble n fn.ntmps)
def enterA (C : Cx) (f : FuncId) (args : List AV) (k : FuncId → Nat → Tr AV → Code → Bool) : Bool := Tr.get C.fns f fun fn =>
  Option.rec (motive := fun _ => Bool) false (enterB args f fn k) fn.body
/-- a loop's place for the arguments of a round -/
def layArgs (nt : Nat) : Tr AV → List Tmp → List AV → (Tr AV → Bool) → Bool
  | T, [], [], k => k T
  | T, p :: ps, a :: as, k => put T nt (some p) a fun T => layArgs nt T ps as k
  | _, _, _, _ => false
def AH.loopOf (H : AH) (id : Nat) (k : ALoop → Bool) : Bool := Tr.get H id fun o => match o with
  | .loop l => k l
  | _ => false
def resultsA (C : Cx) (H : AH) (T : Tr AV) : List ResultVar → (List AV → Bool) → Bool
  | [], k => k []
  | .tmp t :: r, k => Tr.get T t fun v => resultsA C H T r fun l => k (v :: l)
  | .cell a t :: r, k => Tr.get T a fun v => ldA C H t v fun v => resultsA C H T r fun l => k (v :: l)
def resultA (C : Cx) (H : AH) (fn : FuncId) (T : Tr AV) (k : AV → Bool) : Bool := Tr.get C.fns fn fun fn => resultsA C H T fn.results.toList fun l => match l with
  | [v] => k v
  | l => k (.tuple l)

/-! Regions whose order is open: gone through in the text's order; what may come in another order is looked at. -/
inductive Kind where
  | loc
  | read
  | act
def builtinKind : Builtin → Kind
  | .len => .read
  | .max | .real | .imag => .loc
  | _ => .act
def kindOf : Op → Kind
  | .move _ | .assign _ | .pick .. | .build .. | .nilCheck _ | .unOp .. | .makeInterface .. | .makeFunc .. | .slice .. | .fieldAddr .. | .field .. | .indexAddr ..
  | .index .. | .extract .. | .alloc _ | .box .. | .buildSlice .. | .makeMap .. | .makeSlice .. | .convert .. => .loc
  | .load .. | .lookup .. | .binOp .. => .read
  | .call { callee := .builtin b, .. } => builtinKind b
  | _ => .act
/-- what is read, the memory as it is -/
def readA (o : Op) (C : Cx) (T : Tr AV) (H : AH) (k : Kv) : Bool := match o with
  | .load t a => ev a T fun a => ldA C H t a k
  | .lookup t x ix ok => ev x T fun x => ev ix T fun ix => lookupA C H t x ix ok k
  | .binOp op t x y _ => ev x T fun a => ev y T fun b => binA C H op t x y a b k
  | .call { callee := .builtin .len, args, argTypes, .. } => evL args.toList T fun l => match l, argTypes.toList with
    | [x], t :: _ => lenA C H t x k
    | _, _ => false
  | _ => false
/-- the operands alone -/
def onlyK (T : Tr AV) : List Operand → Tr AV → (Tr AV → Bool) → Bool
  | [], R, k => k R
  | .tmp t :: r, R, k => Tr.get T t fun v => Tr.set R t (some v) fun R => onlyK T r R k
  | _ :: r, R, k => onlyK T r R k
/-- which operations an operation comes behind, as bits -/
def edgesOf (acc : Tr Nat) : List Edge → Nat → (Nat → Bool) → Bool
  | [], s, k => fzNat s k
  | e :: r, s, k => match Region.binds .any e with
    | true => Tr.get acc e.on fun b => edgesOf acc r (Nat.lor (Nat.lor s (Nat.pow 2 e.on)) b) k
    | false => edgesOf acc r s k
def bitOn (s i : Nat) : Bool := Nat.beq (Nat.mod (Nat.div s (Nat.pow 2 i)) 2) 1

/-- an allocation that may come later: its place in the region, the block, what it holds -/
structure Pend where
  at_ : Nat
  id : Nat
  obj : AObj
/-- a read that may come later or earlier -/
structure Open where
  at_ : Nat
  bits : Nat
  o : Oper
  T : Tr AV
  v : AV
/-- what has come about in a region -/
structure DS where
  T : Tr AV
  H : AH
  N : Nat
  acc : Tr Nat
  pend : List Pend
  open_ : List Open
  snaps : List (Nat × AH)
  last : Option Nat

/-- without the allocations that are not surely ahead -/
def prune (bits : Nat) : List Pend → AH → (AH → Bool) → Bool
  | [], H, k => k H
  | p :: r, H, k => match bitOn bits p.at_ with
    | true => prune bits r H k
    | false => Tr.set H p.id none fun H => prune bits r H k
def graft (bits : Nat) : List Pend → AH → (AH → Bool) → Bool
  | [], H, k => k H
  | p :: r, H, k => match bitOn bits p.at_ with
    | true => graft bits r H k
    | false => Tr.set H p.id (some p.obj) fun H => graft bits r H k
def again (C : Cx) (o : Oper) (bits : Nat) (ps : List Pend) (T : Tr AV) (H : AH) (v : AV) : Bool :=
  prune bits ps H fun H => readA o.op C T H fun w => sameV v w
def againL (C : Cx) (o : Oper) (bits : Nat) (ps : List Pend) (T : Tr AV) (v : AV) : List (Nat × AH) → Bool
  | [] => true
  | (i, H) :: r => match bitOn bits i with
    | true => againL C o bits ps T v r
    | false => match again C o bits ps T H v with
      | true => againL C o bits ps T v r
      | false => false
/-- open reads behind an act -/
def stillL (C : Cx) (bits : Nat) (ps : List Pend) (H : AH) : List Open → (List Open → Bool) → Bool
  | [], k => k []
  | x :: r, k => match bitOn bits x.at_ with
    | true => stillL C bits ps H r k
    | false => match again C x.o x.bits ps x.T H x.v with
      | true => stillL C bits ps H r fun l => k (x :: l)
      | false => false
/-- a name that none of the memories knows -/
def newTo (N : Nat) : List (Nat × AH) → Bool
  | [] => true
  | (_, H) :: r => match Tr.hasK H N with
    | true => false
    | false => newTo N r

/-- who writes what in a region: each temporary once -/
def writers : List Oper → Nat → Tr Nat → (Tr Nat → Bool) → Bool
  | [], _, W, k => k W
  | o :: r, i, W, k => match o.dst with
    | none => writers r (Nat.succ i) W k
    | some d => match Tr.hasK W d with
      | true => false
      | false => Tr.set W d (some i) fun W => writers r (Nat.succ i) W k
/-- is all that an operation reads here written surely ahead? -/
def behind (W : Tr Nat) (bits : Nat) : List Operand → Bool
  | [] => true
  | .tmp t :: r => match Tr.hasK W t with
    | true => match Tr.get W t fun j => bitOn bits j with
      | true => behind W bits r
      | false => false
    | false => behind W bits r
  | _ :: r => behind W bits r

abbrev CallF := FuncId → List AV → AH → Nat → (AV → AH → Nat → Bool) → Bool
abbrev Kds := DS → Bool

def drawnFin (s : DS) (i bits : Nat) (k : Kds) (T : Tr AV) (H : AH) (N : Nat) (pend : List Pend) (op : List Open) (snaps : List (Nat × AH)) (last : Option Nat) : Bool := match s with
  | ⟨_, _, _, acc, _, _, _, _⟩ => Tr.set acc i (some bits) fun acc => k ⟨T, H, N, acc, pend, op, snaps, last⟩
def drawnNew (i bits : Nat) (s : DS) (k : Kds) (T : Tr AV) (N' : Nat) (ob : AObj) : Bool := match s with
  | ⟨_, H, N, _, pend, op, snaps, last⟩ => match newTo N ((i, H) :: snaps) with
    | true => Tr.set H N (some ob) fun H => drawnFin s i bits k T H N' (⟨i, N, ob⟩ :: pend) op snaps last
    | false => false
def drawnLoc (C : Cx) (nt : Nat) (i : Nat) (o : Oper) (bits : Nat) (s : DS) (k : Kds) : Bool := match s with
  | ⟨T, H, N, _, pend, op, snaps, last⟩ => onlyK T o.op.operands.toList .e fun R => opA o.op C R .e N o.type fun r H' N' => match r with
    | .val v => put T nt o.dst v fun T => match Tr.hasK H' N with
      | false => drawnFin s i bits k T H N' pend op snaps last
      | true => Tr.get H' N (drawnNew i bits s k T N')
    | _ => false
def drawnRead (C : Cx) (nt : Nat) (i : Nat) (o : Oper) (bits : Nat) (s : DS) (k : Kds) : Bool := match s with
  | ⟨T, H, N, _, pend, op, snaps, last⟩ => onlyK T o.op.operands.toList .e fun R => prune bits pend H fun K => readA o.op C R K fun v => match againL C o bits pend R v snaps with
    | true => put T nt o.dst v fun T => drawnFin s i bits k T H N pend (⟨i, bits, o, R, v⟩ :: op) snaps last
    | false => false
def drawnDone (C : Cx) (nt : Nat) (i : Nat) (o : Oper) (bits : Nat) (s : DS) (k : Kds) (v : AV) (K : AH) (N : Nat) : Bool := match s with
  | ⟨T, H0, _, _, pend, op, snaps, _⟩ => graft bits pend K fun H => stillL C bits pend H op fun op =>
    put T nt o.dst v fun T => drawnFin s i bits k T H N pend op ((i, H0) :: snaps) (some i)
def drawnGo (C : Cx) (nt : Nat) (callF : CallF) (i : Nat) (o : Oper) (bits : Nat) (s : DS) (k : Kds) : Bool := match s with
  | ⟨T, H, N, _, pend, _, _, _⟩ => onlyK T o.op.operands.toList .e fun R => prune bits pend H fun K => opA o.op C R K N o.type fun r K N => match r with
    | .val v => drawnDone C nt i o bits s k v K N
    | .skip => drawnDone C nt i o bits s k (.tuple []) K N
    | .enter f args => callF f args K N (drawnDone C nt i o bits s k)
    | _ => false
def drawnAct (C : Cx) (nt : Nat) (callF : CallF) (i : Nat) (o : Oper) (bits : Nat) (s : DS) (k : Kds) : Bool := match s.last with
  | none => drawnGo C nt callF i o bits s k
  | some j => match bitOn bits j with
    | true => drawnGo C nt callF i o bits s k
    | false => false
/-- a conversion between texts and rows of bytes -/
def byteConv (C : Cx) (o : Op) : Bool := match o with
  | .convert a b _ => C.under a fun ua => C.under b fun ub => match ua, ub with
    | .slice _, _ => true
    | _, .slice _ => true
    | _, _ => false
  | _ => false
def drawnOp (C : Cx) (nt : Nat) (callF : CallF) (i : Nat) (o : Oper) (bits : Nat) (s : DS) (k : Kds) : Bool := match byteConv C o.op with
  | true => drawnAct C nt callF i o bits s k
  | false => match kindOf o.op with
    | .loc => drawnLoc C nt i o bits s k
    | .read => drawnRead C nt i o bits s k
    | .act => drawnAct C nt callF i o bits s k
def drawnSkip (nt : Nat) (i : Nat) (o : Oper) (bits : Nat) (s : DS) (k : Kds) : Bool := match s with
  | ⟨T, H, N, _, pend, op, snaps, last⟩ => put T nt o.dst (.tuple []) fun T => drawnFin s i bits k T H N pend op snaps last
def drawnChk (C : Cx) (nt : Nat) (callF : CallF) (all : List Oper) (i : Nat) (o : Oper) (bits : Nat) (s : DS) (k : Kds) (b : Bool) : Bool := match b with
  | true => wantedA s.T all o fun w => match w with
    | true => drawnOp C nt callF i o bits s k
    | false => drawnSkip nt i o bits s k
  | false => false
def guardOn (o : Oper) (bits : Nat) : Bool := match o.guard with
  | none => true
  | some (j, _) => bitOn bits j
def drawnL (C : Cx) (nt : Nat) (callF : CallF) (all : List Oper) (W : Tr Nat) : List Oper → Nat → DS → Kds → Bool
  | [], _, s, k => k s
  | o :: r, i, s, k => edgesOf s.acc o.after.toList 0 fun bits => match behind W bits o.op.operands.toList with
    | false => false
    | true => drawnChk C nt callF all i o bits s (fun s => fzNat (Nat.succ i) fun i => drawnL C nt callF all W r i s k) (guardOn o bits)
def drawnA (C : Cx) (nt : Nat) (callF : CallF) (ops : List Oper) (T : Tr AV) (H : AH) (N : Nat) (k : Tr AV → AH → Nat → Bool) : Bool :=
  writers ops 0 .e fun W => drawnL C nt callF ops W ops 0 ⟨T, H, N, .e, [], [], [], none⟩ fun s => match s with
    | ⟨T, H, N, _, _, _, _, _⟩ => k T H N

/-! One step of a frame, all that it calls gone through by 'self'. -/
def loopBack (x : ALoop) (jump : Option Code) : ALoop := match x with
  | ⟨_, _, fn, T, nt, ps, as, b, d⟩ => match jump with
    | none => ⟨.ready, none, fn, T, nt, ps, as, b, d⟩
    | some c => ⟨.done, some c, fn, T, nt, ps, as, b, d⟩
def loopAs (x : ALoop) (s : LoopState) : ALoop := match x with
  | ⟨_, p, fn, T, nt, ps, as, b, d⟩ => ⟨s, p, fn, T, nt, ps, as, b, d⟩
def goesOn (jump : Option Code) : AV := match jump with
  | none => .bool true
  | some _ => .bool false
/-- what the jump out of a round leaves behind -/
def leaveRound (H : AH) (N : Nat) (l : Nat) (jump : Option Code) (k : AV → AH → Nat → Bool) : Bool :=
  H.loopOf l fun x => Tr.set H l (some (.loop (loopBack x jump))) fun H => k (goesOn jump) H N
def leaveA (self : Krun) (jump : Option Code) (M : MF) (T : Tr AV) (H : AH) (N : Nat) : Bool := match M.ro with
  | none => match jump with
    | none => self M T .unw H N
    | some .ret => self M T .unw H N
    | _ => false
  | some l => leaveRound H N l jump fun v H N => M.k (.ret v) false H N

/-- a frame of a function -/
def frameOf (rc : Option AV) (k : Kend) (self : Krun) (H : AH) (N : Nat) (f : FuncId) (nt : Nat) (T : Tr AV) (b : Code) : Bool :=
  self ⟨f, nt, none, [], rc, false, k⟩ T (.go [.code b]) H N
/-- the one variable of the package that is known to hold a type's handle -/
def isGlob (H : AH) (b t h o : Nat) (k : Bool) : Bool := Tr.get H 0 fun ob => match ob with
  | .glob b' t' h' o' => match Bool.and (Bool.and (Nat.beq b b') (Nat.beq t t')) (Bool.and (Nat.beq h h') (Nat.beq o o')) with
    | true => k
    | false => false
  | _ => false
/-- a function whose answer is known; 'no': it is gone through -/
def knownA (C : Cx) (e : KnownF) (args : List AV) (H : AH) (N : Nat) (k : AV → AH → Nat → Bool) (no : Bool) : Bool := match e with
  | .yes => match args with
    | [] => k (.bool true) H N
    | _ => false
  | .asErr b t h o te tt => match args with
    | [.iface te' (.agg [c, d]), .iface tt' (.ptr i q)] => match Bool.and (Nat.beq te te') (Nat.beq tt tt') with
      | true => isGlob H b t h o (stA C H te (.ptr i q) (.agg [c, d]) fun H => k (.bool true) H N)
      | false => false
    | [.nilIface, _] => no
    | _ => false
def retK (k : Kend) (v : AV) (H : AH) (N : Nat) : Bool := k (.ret v) false H N
/-- a call: gone through, or known -/
def callK (C : Cx) (self : Krun) (f : FuncId) (args : List AV) (k : Kend) (H : AH) (N : Nat) : Bool := match Tr.hasK C.kns f with
  | true => Tr.get C.kns f fun e => knownA C e args H N (retK k) (enterA C f args (frameOf none k self H N))
  | false => enterA C f args (frameOf none k self H N)
/-- a region's operations, one behind the other: 'fin' goes on with what is left -/
abbrev Kreg := MF → List Oper → List AItem → Tr AV → AH → Nat → Bool
def finV (ih : Kreg) (dst : Option Tmp) (M : MF) (all : List Oper) (r : List AItem) (T : Tr AV) (v : AV) (H : AH) (N : Nat) : Bool := put T M.nt dst v fun T => ih M all r T H N
def finDfr (ih : Kreg) (dst : Option Tmp) (M : MF) (all : List Oper) (r : List AItem) (T : Tr AV) (d : ADef) (H : AH) (N : Nat) : Bool := match M with
  | ⟨fn, nt, ro, ds, rc, rcd, k⟩ => match ro with
    | none => finV ih dst ⟨fn, nt, ro, d :: ds, rc, rcd, k⟩ all r T (.tuple []) H N
    | some _ => false
/-- a frame is left by a panic -/
def panM (self : Krun) (M : MF) (T : Tr AV) (v : AV) (H : AH) (N : Nat) : Bool := match M.ro with
  | none => self M T (.pan v) H N
  | some _ => false
/-- behind a call -/
def finCall (self : Krun) (ih : Kreg) (dst : Option Tmp) (M : MF) (all : List Oper) (r : List AItem) (T : Tr AV) (e : AEnd) (_ : Bool) (H : AH) (N : Nat) : Bool :=
  AEnd.rec (fun v => finV ih dst M all r T v H N) (fun v => panM self M T v H N) e
/-- the caller's panic is recovered, if there is one -/
def finRcv (ih : Kreg) (dst : Option Tmp) (M : MF) (all : List Oper) (r : List AItem) (T : Tr AV) (H : AH) (N : Nat) : Bool := match M with
  | ⟨fn, nt, ro, ds, rc, rcd, k⟩ => match rcd, rc with
    | true, _ => false
    | false, none => finV ih dst ⟨fn, nt, ro, ds, none, false, k⟩ all r T .nilIface H N
    | false, some v => match ro with
      | none => finV ih dst ⟨fn, nt, ro, ds, none, true, k⟩ all r T v H N
      | some _ => false
def goRound (self : Krun) (H : AH) (N : Nat) (l : Nat) (args : List AV) (k : Kend) (x : ALoop) : Bool := match x with
  | ⟨_, _, fn, T, nt, ps, as, b, _⟩ => layArgs nt T ps.toList args fun T => self ⟨fn, nt, some l, [], none, false, k⟩ T (.go [.code as, .beginRound, .code b]) H N
/-! Both ways of a choice, to the frame's end. -/
def sameEnts : List AEnt → List AEnt → Bool
  | [], [] => true
  | x :: r, y :: s => match Bool.and (Bool.and (sameV x.key y.key) (sameV x.val y.val)) (Nat.beq x.born y.born) with
    | true => sameEnts r s
    | false => false
  | _, _ => false
def sameObj : AObj → AObj → Bool
  | .cells a x p, .cells b y q => Bool.and (Bool.and (sameL a b) (Nat.beq x y)) (match p with | true => q | false => Bool.not q)
  | .map a x, .map b y => Bool.and (sameEnts a b) (Nat.beq x y)
  | .glob a b c d, .glob x y z w => Bool.and (Bool.and (Nat.beq a x) (Nat.beq b y)) (Bool.and (Nat.beq c z) (Nat.beq d w))
  | _, _ => false
def calmObj : AObj → Bool
  | .cells _ _ _ => true
  | .map _ _ => true
  | .glob _ _ _ _ => true
  | _ => false
/-- the memory without iterators and loops -/
def calmK (H : AH) (n : Nat) : AH → (AH → Bool) → Bool := Nat.rec (motive := fun _ => AH → (AH → Bool) → Bool) (fun A k => k A) (fun i ih A k => match Tr.hasK H i with
  | true => Tr.get H i fun o => match calmObj o with
    | true => Tr.set A i (some o) fun A => ih A k
    | false => ih A k
  | false => ih A k) n
/-- is all of one memory in the other one? -/
def agreeK (A H : AH) (n : Nat) : Bool := Nat.rec (motive := fun _ => Bool) true (fun i ih => match Tr.hasK A i with
  | true => Tr.get A i fun o => Tr.get H i fun o' => match sameObj o o' with
    | true => ih
    | false => false
  | false => ih) n
def bothEnd (A : AH) (N B : Nat) (e : AEnd) (b : Bool) (H : AH) (N' : Nat) : Bool := match e, b with
  | .ret (.bool true), false => match Nat.ble N' B with
    | true => agreeK A H N
    | false => false
  | _, _ => false
def withK (M : MF) (k : Kend) : MF := match M with
  | ⟨fn, nt, ro, ds, rc, rcd, _⟩ => ⟨fn, nt, ro, ds, rc, rcd, k⟩
def twoWays (ih : Kreg) (dst : Option Tmp) (M : MF) (all : List Oper) (r : List AItem) (T : Tr AV) (N : Nat) (A : AH) (B : Nat) (v1 : AV) (H1 : AH) (v2 : AV) (H2 : AH) : Bool := match finV ih dst (withK M (bothEnd A N B)) all r T v1 H1 N with
  | true => finV ih dst (withK M (bothEnd A N B)) all r T v2 H2 N
  | false => false
def finEither (ih : Kreg) (dst : Option Tmp) (M : MF) (all : List Oper) (r : List AItem) (T : Tr AV) (it : Nat) (H : AH) (N : Nat) : Bool := calmK H N .e fun A => fzNat (Nat.add N 1000) fun B => match eitherK H it (twoWays ih dst M all r T N A B) with
  | true => M.k (.ret (.bool true)) false A B
  | false => false
abbrev Kfin := Cx → Krun → Kreg → Option Tmp → MF → List Oper → List AItem → Tr AV → AH → Nat → Bool
def finN : AN → Kfin := AN.rec
  (fun v _ _ ih dst M all r T H N => finV ih dst M all r T v H N)
  (fun _ _ ih dst M all r T H N => finV ih dst M all r T (.tuple []) H N)
  (fun f args C self ih dst M all r T H N => callK C self f args (finCall self ih dst M all r T) H N)
  (fun d _ _ ih dst M all r T H N => finDfr ih dst M all r T d H N)
  (fun _ _ ih dst M all r T H N => finRcv ih dst M all r T H N)
  (fun l args _ self ih dst M all r T H N => AH.loopOf H l (goRound self H N l args (finCall self ih dst M all r T)))
  (fun v _ self _ _ M _ _ T H N => panM self M T v H N)
  (fun it _ _ ih dst M all r T H N => finEither ih dst M all r T it H N)
def finOp (C : Cx) (self : Krun) (ih : Kreg) (dst : Option Tmp) (M : MF) (all : List Oper) (r : List AItem) (T : Tr AV) (x : AN) (H : AH) (N : Nat) : Bool := finN x C self ih dst M all r T H N
def stepReg (C : Cx) (self : Krun) (o : Oper) (ih : Kreg) (M : MF) (all : List Oper) (r : List AItem) (T : Tr AV) (H : AH) (N : Nat) (w : Bool) : Bool :=
  Bool.rec (finV ih o.dst M all r T (.tuple []) H N) (opA o.op C T H N o.type (finOp C self ih o.dst M all r T)) w
def regL (C : Cx) (self : Krun) : List Oper → Kreg :=
  List.rec (fun M _ r T H N => self M T (.go r) H N) fun o _ ih M all r T H N => wantedA T all o (stepReg C self o ih M all r T H N)
/-- a call that comes back -/
def retOnly (kk : AV → AH → Nat → Bool) (e : AEnd) (b : Bool) (H : AH) (N : Nat) : Bool := match e with
  | .ret v => match b with
    | true => false
    | false => kk v H N
  | .pan _ => false
/-- a call in a region whose order is open -/
def callIn (C : Cx) (self : Krun) : CallF := fun f args H N kk => callK C self f args (retOnly kk) H N
def loopEnd (self : Krun) (M : MF) (T : Tr AV) (r : List AItem) (l : Nat) (e : AEnd) (_ : Bool) (H : AH) (N : Nat) : Bool := match e with
  | .ret _ => self M T (.go (.endRangeFunc l :: r)) H N
  | .pan _ => false
def loopCall (C : Cx) (self : Krun) (M : MF) (T : Tr AV) (r : List AItem) (l : Nat) (x : AN) (H : AH) (N : Nat) : Bool := match x with
  | .enter g args => enterA C g args (frameOf none (loopEnd self M T r l) self H N)
  | _ => false
def loopFn (C : Cx) (self : Krun) (M : MF) (T : Tr AV) (r : List AItem) (l : Nat) (H : AH) (N : Nat) (fv : AV) : Bool := match fv with
  | .func fn first cap => appL first [.yield l] fun args => invokeA C H N (.fn fn cap) args (loopCall C self M T r l)
  | _ => false
def loopGo (C : Cx) (self : Krun) (M : MF) (T : Tr AV) (f : Operand) (ps : Array Tmp) (as b : Code) (r : List AItem) (dblk : Nat) (H : AH) (N : Nat) : Bool :=
  newObj H N (.loop ⟨.ready, none, M.fn, T, M.nt, ps, as, b, dblk⟩) fun H' N' => ev f T (loopFn C self M T r N H' N')
abbrev Kcode := Cx → Krun → List AItem → MF → Tr AV → AH → Nat → Bool
def noCode : Kcode := fun _ _ _ _ _ _ _ => false
def cSkip : Kcode := fun _ self r M T H N => self M T (.go r) H N
def cRegion (_ : Nat) (ops : Array Oper) (draw : Bool) : Kcode := Bool.rec
  (fun C self r M T H N => regL C self ops.toList M ops.toList r T H N)
  (fun C self r M T H N => match M.ro with
    | none => drawnA C M.nt (callIn C self) ops.toList T H N fun T H N => self M T (.go r) H N
    | some _ => false) draw
def cSeq (a b : Code) : Kcode := fun _ self r M T H N => self M T (.go (.code a :: .code b :: r)) H N
def condA (a b : Code) (self : Krun) (r : List AItem) (M : MF) (T : Tr AV) (H : AH) (N : Nat) (v : AV) : Bool := match v with
  | .bool true => self M T (.go (.code a :: r)) H N
  | .bool false => self M T (.go (.code b :: r)) H N
  | _ => false
def cCond (x : Operand) (a b : Code) : Kcode := fun _ self r M T H N => ev x T (condA a b self r M T H N)
def cBlock (id : Nat) (b : Code) : Kcode := fun _ self r M T H N => self M T (.go (.code b :: .inBlock id :: r)) H N
def cLoop (b : Code) : Kcode := fun _ self r M T H N => self M T (.go (.code b :: .inLoop b :: r)) H N
def cScope (b : Code) : Kcode := fun _ self r M T H N => self M T (.go (.code b :: .inScope b :: r)) H N
def cExit (id : Nat) : Kcode := fun _ self r M T H N => exitToA id r (fun r => self M T (.go r) H N) (leaveA self (some (.exit id)) M T H N)
def cGoto (l : Nat) : Kcode := fun _ self r M T H N => gotoInA l r (fun r => self M T (.go r) H N) (leaveA self (some (.goto l)) M T H N)
def cRet : Kcode := fun _ self _ M T H N => leaveA self (some .ret) M T H N
def cLoopFn (f : Operand) (ps : Array Tmp) (as b : Code) : Kcode := fun C self r M T H N => match M with
  | ⟨fn, nt, ro, ds, rc, rcd, k⟩ => match ro with
    | some l => H.loopOf l fun x => loopGo C self M T f ps as b r x.defers H N
    | none => newObj H N (.deferred (some [])) fun H' N' => loopGo C self ⟨fn, nt, ro, ⟨.collected N, []⟩ :: ds, rc, rcd, k⟩ T f ps as b r N H' N'
def stepCode (c : Code) : Kcode := Code.rec (motive := fun _ => Kcode) cSkip cRegion (fun a b _ _ => cSeq a b) (fun x a b _ _ => cCond x a b) (fun id b _ => cBlock id b) (fun b _ => cLoop b)
  (fun f ps as b _ _ => cLoopFn f ps as b) cExit (fun b _ => cScope b) (fun _ => cSkip) cGoto cRet (fun _ => noCode) c
def stepBegin : Kcode := fun _ self r M T H N => match M.ro with
  | none => false
  | some l => H.loopOf l fun x => match x.state with
    | .ready => Tr.set H l (some (.loop (loopAs x .busy))) fun H => self M T (.go r) H N
    | _ => false
def stepEnd (l : Nat) : Kcode := fun _ self r M T H N => H.loopOf l fun x => match x.state with
  | .busy => false
  | _ => Tr.set H l (some (.loop (loopAs x .exhausted))) fun H => match x.pending with
    | none => self M T (.go r) H N
    | some c => self M T (.go (.code c :: r)) H N
def stepItem : AItem → Kcode := AItem.rec stepCode (fun _ => cSkip) cLoop (fun _ => cSkip)
  (fun _ _ => noCode) stepEnd stepBegin
def stepRun (todo : List AItem) : Cx → Krun → MF → Tr AV → AH → Nat → Bool :=
  List.rec (fun _ self M T H N => leaveA self none M T H N) (fun it r _ C self M T H N => stepItem it C self r M T H N) todo

def dfrEnd (self : Krun) (M : MF) (T : Tr AV) (e : AEnd) (b : Bool) (H : AH) (N : Nat) : Bool := match e with
  | .ret _ => match b with
    | true => false
    | false => self M T .unw H N
  | .pan _ => false
def dfrGo (C : Cx) (self : Krun) (M : MF) (T : Tr AV) (x : AN) (H : AH) (N : Nat) : Bool := match x with
  | .enter f args => enterA C f args (frameOf none (dfrEnd self M T) self H N)
  | .val _ => self M T .unw H N
  | .skip => self M T .unw H N
  | _ => false
def dfrOne (C : Cx) (self : Krun) (d : ADef) (M : MF) (T : Tr AV) (H : AH) (N : Nat) : Bool := match d with
  | ⟨.collected id, _⟩ => Tr.get H id fun o => match o with
    | .deferred (some []) => Tr.set H id (some (.deferred none)) fun H => self M T .unw H N
    | _ => false
  | ⟨t, args⟩ => invokeA C H N t args (dfrGo C self M T)
def unwind (C : Cx) (self : Krun) (M : MF) (T : Tr AV) (H : AH) (N : Nat) : Bool := match M with
  | ⟨fn, nt, ro, ds, rc, rcd, k⟩ => match ds with
    | d :: ds => dfrOne C self d ⟨fn, nt, ro, ds, rc, rcd, k⟩ T H N
    | [] => match ro with
      | none => resultA C H fn T fun v => k (.ret v) rcd H N
      | some _ => false
/-- behind a deferred call, a panic is on its way -/
def pdfEnd (self : Krun) (M : MF) (T : Tr AV) (v : AV) (e : AEnd) (b : Bool) (H : AH) (N : Nat) : Bool := match e with
  | .ret _ => match b with
    | true => self M T .unw H N
    | false => self M T (.pan v) H N
  | .pan _ => false
def pdfGo (C : Cx) (self : Krun) (M : MF) (T : Tr AV) (v : AV) (x : AN) (H : AH) (N : Nat) : Bool := match x with
  | .enter f args => enterA C f args (frameOf (some v) (pdfEnd self M T v) self H N)
  | _ => false
def pdfOne (C : Cx) (self : Krun) (d : ADef) (M : MF) (T : Tr AV) (v : AV) (H : AH) (N : Nat) : Bool := match d with
  | ⟨.fn fn cap, args⟩ => invokeA C H N (.fn fn cap) args (pdfGo C self M T v)
  | _ => false
def unwindP (v : AV) (C : Cx) (self : Krun) (M : MF) (T : Tr AV) (H : AH) (N : Nat) : Bool := match M with
  | ⟨fn, nt, ro, ds, rc, rcd, k⟩ => match ro with
    | some _ => false
    | none => match ds with
      | d :: ds => pdfOne C self d ⟨fn, nt, none, ds, rc, rcd, k⟩ T v H N
      | [] => match rc with
        | some _ => false
        | none => match rcd with
          | true => false
          | false => Tr.get C.fns fn fun _ => k (.pan v) false H N
def stepPos : Pos → Cx → Krun → MF → Tr AV → AH → Nat → Bool := Pos.rec stepRun unwind unwindP
def run (C : Cx) (fuel : Nat) : Krun := Nat.rec (motive := fun _ => Krun) (fun _ _ _ _ _ => false) (fun _ ih M T p H N => stepPos p C ih M T H N) fuel

/-! The tables, made at the beginning. -/
def tiOf (p : Program) (i : TypeInfo) (k : TI → Bool) : Bool :=
  let mk (d : TypeDesc) : Bool := fzNat i.size fun n => k ⟨n, match d with | .struct _ => true | .array _ _ => true | _ => false, d, i⟩
  match i.desc with
  | .named _ u => match p.types.toList[u]? with
    | some j => mk j.desc
    | none => false
  | d => mk d
def typesL (p : Program) : List TypeInfo → Nat → Tr TI → (Tr TI → Bool) → Bool
  | [], _, t, k => k t
  | i :: r, n, t, k => tiOf p i fun x => Tr.set t n (some x) fun t => fzNat (Nat.succ n) fun n => typesL p r n t k
def extL : List (Nat × Ext) → Tr Ext → (Tr Ext → Bool) → Bool
  | [], t, k => k t
  | (f, e) :: r, t, k => Tr.set t f (some e) fun t => extL r t k
def knL : List (Nat × KnownF) → Tr KnownF → (Tr KnownF → Bool) → Bool
  | [], t, k => k t
  | (f, e) :: r, t, k => Tr.set t f (some e) fun t => knL r t k
def mkCx (p : Program) (xs : List (Nat × Ext)) (ks : List (Nat × KnownF)) (k : Cx → Bool) : Bool := typesL p p.types.toList 0 .e fun a => Tr.ofList p.funcs.toList 0 .e fun b => extL xs .e fun x => knL ks .e fun n => k ⟨p, a, b, x, n⟩
def isTrue (e : AEnd) (_ : Bool) (_ : AH) (_ : Nat) : Bool := match e with
  | .ret (.bool true) => true
  | _ => false
def top (p : Program) (xs : List (Nat × Ext)) (ks : List (Nat × KnownF)) (f : FuncId) (fuel : Nat) : Bool := mkCx p xs ks fun C => enterA C f [] (frameOf none isTrue (run C fuel) .e 0)
/-- a run from where one variable of a package holds a type's handle -/
def topG (p : Program) (xs : List (Nat × Ext)) (ks : List (Nat × KnownF)) (f : FuncId) (fuel : Nat) (b t h o : Nat) : Bool := mkCx p xs ks fun C => newObj .e 0 (.glob b t h o) fun H N => enterA C f [] (frameOf none isTrue (run C fuel) H N)
end
end Go.Proofs.YthidihigidchgaaGreatDoor.Sy
