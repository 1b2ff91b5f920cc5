/- The abstract interpreter: values, stores and the interpreter itself (definitions alone). -/
import Derived.Orders
import Derived.Calls
import Derived.KernelRfl
namespace Go.Proofs.YtdgipcjigbagfaaGreat.AB

inductive AVal where
  | undef
  | bool (b : Bool)
  | int (k : IntKind) (n : Int)
  | str (s : ByteArray)
  | nilp
  | ptr (b i j : Nat)
  /-- into row i of block b's family -/
  | fptr (b i j : Nat)
  | nils
  | slice (sz b lo len : Nat) (cap : Option Nat)
  | nili
  | iface (t : Nat) (v : AVal)
  | nilf
  | func (f : Nat) (cap : List AVal)
  | agg (cs : List AVal)
  | tuple (vs : List AVal)
  deriving Inhabited

/-- the codes of a row's element -/
inductive Cd where
  | int (k : IntKind)
  | bool
  | str
  | pair (a b : Cd)
  | box (t : Nat) (c : Cd)
  deriving DecidableEq, Inhabited

def Cd.El : Cd → Type
  | .int _ => Int
  | .bool => Bool
  | .str => ByteArray
  | .pair a b => a.El × b.El
  | .box _ c => Option c.El

def Cd.size : Cd → Nat
  | .pair a b => a.size + b.size
  | _ => 1

def Cd.enc : (c : Cd) → c.El → List AVal
  | .int k, n => [.int k n]
  | .bool, b => [.bool b]
  | .str, s => [.str s]
  | .pair a b, x => a.enc x.1 ++ b.enc x.2
  | .box t c, x => match x with
    | none => [.nili]
    | some y => [.iface t (.agg (c.enc y))]

def Cd.dec : (c : Cd) → List AVal → Option c.El
  | .int k, [.int k' n] => if k = k' then some n else none
  | .bool, [.bool b] => some b
  | .str, [.str s] => some s
  | .pair a b, l => match a.dec (l.take a.size), b.dec (l.drop a.size) with
    | some x, some y => some (x, y)
    | _, _ => none
  | .box t c, [v] => match v with
    | .nili => some none
    | .iface t' (.agg cs) => if t = t' then (match c.dec cs with | some y => some (some y) | none => none) else none
    | _ => none
  | _, _ => none

/-- the cells of an element, its box opened first -/
def Cd.open {R : Type} : (c : Cd) → c.El → (List AVal → Option R) → Option R
  | .box t c, x, k => match x with
    | none => k [.nili]
    | some y => k [.iface t (.agg (c.enc y))]
  | .int i, x, k => k (Cd.enc (.int i) x)
  | .bool, x, k => k (Cd.enc .bool x)
  | .str, x, k => k (Cd.enc .str x)
  | .pair a b, x, k => k (Cd.enc (.pair a b) x)

inductive Blk where
  | dead
  | var (cs : List AVal)
  | rows (c : Cd) (l : List c.El) (ro : Bool)
  /-- a slice of pointers (boxed, of type t) and what they point to: rows, each in a place of its own -/
  | fam (t : Nat) (c : Cd) (l : List (Option Nat)) (f : List c.El)
  /-- a slice whose cells are told one by one -/
  | cells (cs : List AVal)
  deriving Inhabited

def Blk.live : Blk → Bool
  | .dead => false
  | _ => true
def Blk.wr : Blk → Bool
  | .dead => false
  | .rows _ _ ro => !ro
  | .var _ => true
  | .fam .. => true
  | .cells _ => true
def Blk.ro : Blk → Bool
  | .rows _ _ ro => ro
  | _ => false

inductive TyK where
  | int (k : IntKind) | bool | str | ptr | slice | struct | array | iface | func | other
  deriving DecidableEq, Inhabited

structure TyI where
  kd : TyK
  size : Nat
  bytes : Nat
  zero : List AVal
  flds : List (Nat × Nat)
  elem : Nat
  code : Cd
  /-- a struct of whole numbers, bools and strings, which may be compared -/
  eq : Bool
  deriving Inhabited

def TyI.agg (t : TyI) : Bool := match t.kd with | .struct => true | .array => true | _ => false

def known (t : TyI) : Bool := match t.kd with | .other => false | _ => true

def tyNone : TyI := ⟨.other, 0, 0, [], [], 0, .bool, false⟩

def tyAt : List TyI → Nat → TyI
  | [], _ => tyNone
  | t :: _, 0 => t
  | _ :: ts, n + 1 => tyAt ts n

inductive Prim where
  | ret (v : AVal)
  /-- row i of block b is read -/
  | rd (b i : Nat) (f : List AVal → Option AVal)
  /-- cells from j on of row i of block b are written -/
  | wr (b i j : Nat) (cs : List AVal)
  | new (blk : Blk) (v : Nat → AVal)
  /-- rows lo.. of block b (if any), then rows lo2.. of block b2 (if any): a new block; b is given up where kill -/
  | app (c : Cd) (b : Option (Nat × Nat × Nat)) (kill : Bool) (b2 : Option (Nat × Nat × Nat))
  /-- rows lo.. (n of them) are set to a value -/
  | fill (b lo n : Nat) (cs : List AVal)
  /-- row i of block b's family is read -/
  | rdF (b i : Nat) (f : List AVal → Option AVal)
  | wrF (b i j : Nat) (cs : List AVal)
  /-- a slice of one pointer, to block k, which is given up to it -/
  | famNew (t : Nat) (c : Cd) (k : Nat)
  | call (f : Nat) (args : List AVal)

abbrev Env := (R : Type) → Nat → List AVal → List Blk → (AVal → List Blk → Option R) → Option R

def cellsOf : AVal → List AVal
  | .agg cs => cs
  | v => [v]

def constA : Value → AVal
  | .int k n => .int k n
  | .bool b => .bool b
  | .string s => .str s
  | .pointer none => .nilp
  | .slice none 0 0 => .nils
  | .nilIface => .nili
  | .nilFunc => .nilf
  | _ => .undef

def getT : List (Nat × AVal) → Nat → AVal
  | [], _ => .undef
  | (u, v) :: r, t => bif Nat.beq u t then v else getT r t

def evalA (tm : List (Nat × AVal)) : Operand → AVal
  | .tmp t => getT tm t
  | .const v => constA v
  | .global _ => .undef
  | .func f => .func f []

def sameK (a b : IntKind) : Bool := decide (a = b)

def bitsA (op : BinOp) (k : IntKind) (x y : Int) : Int :=
  let a := BitVec.ofInt k.bits x
  let b := BitVec.ofInt k.bits y
  k.wrap (match op with
    | .and => (a &&& b).toNat
    | .or => (a ||| b).toNat
    | .xor => (a ^^^ b).toNat
    | _ => (a &&& ~~~b).toNat : Nat)

def eqCell : AVal → AVal → Option Bool
  | .int k a, .int k' b => bif sameK k k' then some (decide (a = b)) else none
  | .bool a, .bool b => some (a == b)
  | .str a, .str b => some (a.data.toList == b.data.toList)
  | _, _ => none

def eqCells : List AVal → List AVal → Option Bool
  | [], [] => some true
  | x :: xs, y :: ys => match eqCell x y, eqCells xs ys with
    | some a, some b => some (a && b)
    | _, _ => none
  | _, _ => none

def fitCell : TyK → AVal → Bool
  | .int _, .int _ _ => true
  | .bool, .bool _ => true
  | .str, .str _ => true
  | _, _ => false

/-- the cells of a struct are of its fields' kinds, one each -/
def fits (ti : Nat → TyI) : Nat → List (Nat × Nat) → List AVal → Bool
  | _, [], [] => true
  | n, (t, off) :: r, v :: vs => fitCell (ti t).kd v && Nat.beq off n && fits ti (n + 1) r vs
  | _, _, _ => false

def intK {R : Type} (op : BinOp) (kx : IntKind) (a : Int) (ky : IntKind) (b : Int) (k : AVal → Option R) : Option R :=
  match op with
  | .shl => bif decide (b < 0) then none else k (.int kx (kx.wrap (a * 2 ^ (min b.toNat kx.bits))))
  | .shr => bif decide (b < 0) then none else k (.int kx (a.fdiv (2 ^ (min b.toNat kx.bits))))
  | .add => bif sameK kx ky then k (.int kx (kx.wrap (a + b))) else none
  | .sub => bif sameK kx ky then k (.int kx (kx.wrap (a - b))) else none
  | .mul => bif sameK kx ky then k (.int kx (kx.wrap (a * b))) else none
  | .quo => bif sameK kx ky then (bif decide (b = 0) then none else k (.int kx (kx.wrap (a.tdiv b)))) else none
  | .rem => bif sameK kx ky then (bif decide (b = 0) then none else k (.int kx (a.tmod b))) else none
  | .eql => bif sameK kx ky then k (.bool (decide (a = b))) else none
  | .neq => bif sameK kx ky then k (.bool (!decide (a = b))) else none
  | .lss => bif sameK kx ky then k (.bool (decide (a < b))) else none
  | .leq => bif sameK kx ky then k (.bool (decide (a ≤ b))) else none
  | .gtr => bif sameK kx ky then k (.bool (decide (b < a))) else none
  | .geq => bif sameK kx ky then k (.bool (decide (b ≤ a))) else none
  | .and => bif sameK kx ky then k (.int kx (bitsA .and kx a b)) else none
  | .or => bif sameK kx ky then k (.int kx (bitsA .or kx a b)) else none
  | .xor => bif sameK kx ky then k (.int kx (bitsA .xor kx a b)) else none
  | .andNot => bif sameK kx ky then k (.int kx (bitsA .andNot kx a b)) else none

def scal : AVal → Bool
  | .undef => false
  | .agg _ => false
  | .tuple _ => false
  | _ => true

def scals : List AVal → Bool
  | [] => true
  | v :: r => scal v && scals r

def inB (i : Int) (n : Nat) : Bool := decide (0 ≤ i ∧ i < (n : Int))

def partA (t : TyI) (cs : List AVal) (j : Nat) : Option AVal :=
  bif t.agg then (bif Nat.ble (j + t.size) cs.length then some (.agg ((cs.drop j).take t.size)) else none)
  else match cs.drop j with | v :: _ => some v | [] => none

def zOk (t : TyI) : Bool := Nat.beq t.zero.length t.size && (Nat.beq t.size 1 || t.agg)

def zeroA (t : TyI) : AVal := match t.kd with | .struct => .agg t.zero | .array => .agg t.zero | _ => t.zero.headD .undef

def fldA (t : TyI) (f : Nat) : Option (Nat × Nat) := t.flds[f]?

def buildA (ti : Nat → TyI) (fs : List (Nat × Nat)) (zero : List AVal) : List (Nat × AVal) → Option (List AVal)
  | [] => some zero
  | (f, v) :: rest => match fs[f]? with
    | none => none
    | some (ft, off) =>
      bif Nat.beq (cellsOf v).length (ti ft).size && Nat.ble (off + (ti ft).size) zero.length then
        buildA ti fs (zero.take off ++ cellsOf v ++ zero.drop (off + (ti ft).size)) rest
      else none

/-- the places of an array's elements -/
def offsOk (size : Nat) : Nat → List (Nat × Nat) → Bool
  | _, [] => true
  | n, (_, off) :: r => Nat.beq off (n * size) && offsOk size (n + 1) r

def decAll (c : Cd) : List (List AVal) → Option (List c.El)
  | [] => some []
  | x :: xs => match c.dec x, decAll c xs with
    | some a, some l => some (a :: l)
    | _, _ => none

def partsInOrder : Nat → List (Nat × Operand) → Bool
  | _, [] => true
  | n, (i, _) :: r => Nat.beq i n && partsInOrder (n + 1) r

def minmaxK {R : Type} (mx : Bool) (x : AVal) : List AVal → (AVal → Option R) → Option R
  | [], k => k x
  | y :: r, k => match x, y with
    | .int kx a, .int ky b => bif sameK kx ky then minmaxK mx (.int kx (bif mx then (if b > a then b else a) else (if b < a then b else a))) r k else none
    | _, _ => none

def sliceOf (x : AVal) : Option (Option (Nat × Nat × Nat) × Nat) :=
  match x with
  | .nils => some (none, 0)
  | .slice _ b lo len _ => some (some (b, lo, len), len)
  | _ => none

def niceA : AVal → Bool
  | .undef => false
  | .tuple _ => false
  | _ => true

def appendK {R : Type} (ti : Nat → TyI) (T : Nat) (s x : AVal) (k : Prim → Option R) : Option R :=
  match s, x with
  | .nils, .nils => k (.ret .nils)
  | .slice sz b lo len cap, .nils => k (.ret (.slice sz b lo len cap))
  | .nils, .slice sz2 b2 lo2 n _ =>
    bif Nat.beq (ti (ti T).elem).zero.length (ti (ti T).elem).size && Nat.blt 0 (ti (ti T).elem).bytes && Nat.beq (ti (ti T).elem).code.size (ti (ti T).elem).size && Nat.beq sz2 (ti (ti T).elem).size && Nat.blt 0 n &&
      Nat.ble (n * (ti (ti T).elem).bytes) 35184372088832 then k (.app (ti (ti T).elem).code none false (some (b2, lo2, n))) else none
  | .slice sz b lo len cap, .slice sz2 b2 lo2 n _ =>
    bif Nat.beq (ti (ti T).elem).zero.length (ti (ti T).elem).size && Nat.blt 0 (ti (ti T).elem).bytes && Nat.beq (ti (ti T).elem).code.size (ti (ti T).elem).size && Nat.beq sz (ti (ti T).elem).size && Nat.beq sz2 (ti (ti T).elem).size &&
      Nat.blt 0 n && !(Nat.beq b b2) && Nat.ble ((len + n) * (ti (ti T).elem).bytes) 35184372088832 then
      match cap with
      | none => k (.app (ti (ti T).elem).code (some (b, lo, len)) true (some (b2, lo2, n)))
      | some c => bif Nat.blt c (len + n) then k (.app (ti (ti T).elem).code (some (b, lo, len)) false (some (b2, lo2, n))) else none
    else none
  | _, _ => none

def builtinK {R : Type} (ti : Nat → TyI) (b : Builtin) (ats : List Nat) (args : List AVal) (k : Prim → Option R) : Option R :=
  match b, ats, args with
  | .len, [T], [x] => match (ti T).kd, x with
    | .str, .str s => k (.ret (.int .i64 (s.size : Int)))
    | .slice, .nils => k (.ret (.int .i64 0))
    | .slice, .slice _ _ _ len _ => k (.ret (.int .i64 (len : Int)))
    | _, _ => none
  | .max, _, x :: r => minmaxK true x r fun v => k (.ret v)
  | .min, _, x :: r => minmaxK false x r fun v => k (.ret v)
  | .append, [T, T'], [s, x] => match (ti T).kd with
    | .slice => bif Nat.beq T T' && known (ti (ti T).elem) then appendK ti T s x k else none
    | _ => none
  | .clear, [T], [x] => match (ti T).kd, x with
    | .slice, .nils => k (.ret (.tuple []))
    | .slice, .slice sz b lo len _ => bif known (ti (ti T).elem) && Nat.beq sz (ti (ti T).elem).size && Nat.beq (ti (ti T).elem).zero.length sz && scals (ti (ti T).elem).zero then k (.fill b lo len (ti (ti T).elem).zero) else none
    | _, _ => none
  | _, _, _ => none

def sliceK {R : Type} (ti : Nat → TyI) (T : Nat) (x : AVal) (lo hi : Option AVal) (k : AVal → Option R) : Option R :=
  match (ti T).kd, x with
  | .str, .str s =>
    match lo, hi with
    | none, none => k (.str (s.extract 0 s.size))
    | some (.int _ l), none => bif decide (0 ≤ l ∧ l ≤ (s.size : Int)) then k (.str (s.extract l.toNat s.size)) else none
    | none, some (.int _ h) => bif decide (0 ≤ h ∧ h ≤ (s.size : Int)) then k (.str (s.extract 0 h.toNat)) else none
    | some (.int _ l), some (.int _ h) => bif decide (0 ≤ h ∧ h ≤ (s.size : Int)) then (bif decide (0 ≤ l ∧ l ≤ h) then k (.str (s.extract l.toNat h.toNat)) else none) else none
    | _, _ => none
  | .slice, .slice sz b l0 len cap =>
    bif known (ti (ti T).elem) && Nat.beq sz (ti (ti T).elem).size then
      match lo, hi with
      | none, none => k x
      | some (.int _ l), none => bif decide (0 ≤ l ∧ l ≤ (len : Int)) then k (.slice sz b (l.toNat + l0) (len - l.toNat) (cap.map (· - l.toNat))) else none
      | none, some (.int _ h) => bif decide (0 ≤ h ∧ h ≤ (len : Int)) then k (.slice sz b l0 h.toNat cap) else none
      | some (.int _ l), some (.int _ h) => bif decide (0 ≤ h ∧ h ≤ (len : Int)) then (bif decide (0 ≤ l ∧ l ≤ h) then k (.slice sz b (l.toNat + l0) (h.toNat - l.toNat) (cap.map (· - l.toNat))) else none) else none
      | _, _ => none
    else none
  | .slice, .nils =>
    bif known (ti (ti T).elem) then
      match lo, hi with
      | none, none => k .nils
      | some (.int _ l), none => bif decide (l = 0) then k .nils else none
      | none, some (.int _ h) => bif decide (h = 0) then k .nils else none
      | some (.int _ l), some (.int _ h) => bif decide (h = 0) then (bif decide (l = 0) then k .nils else none) else none
      | _, _ => none
    else none
  | _, _ => none

def callK {R : Type} (ti : Nat → TyI) (ρ : Operand → AVal) (c : Call) (k : Prim → Option R) : Option R :=
  match c.callee with
  | .builtin b => builtinK ti b c.argTypes.toList (c.args.toList.map ρ) k
  | .value f => match ρ f with
    | .func g caps => k (.call g (c.args.toList.map ρ ++ caps))
    | _ => none
  | .invoke _ _ => none

def byteAt (s : ByteArray) (j : Nat) : Int := ((s.data.toList.getD j 0).toNat : Int)

def primK {R : Type} (ti : Nat → TyI) (ρ : Operand → AVal) (op : Op) (k : Prim → Option R) : Option R :=
  match op with
  | .move x => k (.ret (ρ x))
  | .assign x => k (.ret (ρ x))
  | .pick c a b => match ρ c with
    | .bool t => bif t then k (.ret (ρ a)) else k (.ret (ρ b))
    | _ => none
  | .alloc T => bif known (ti T) && Nat.beq (ti T).zero.length (ti T).size then k (.new (.var (ti T).zero) fun id => .ptr id 0 0) else none
  | .box T x => match ρ x with
    | .undef => none
    | .tuple _ => none
    | v => k (.new (.var (cellsOf v)) fun id => .ptr id 0 0)
  | .build T parts =>
    match (ti T).kd with
    | .struct => bif (ti T).flds.all (fun p => known (ti p.1)) && parts.toList.all (fun p => niceA (ρ p.2)) then match buildA ti (ti T).flds (ti T).zero (parts.toList.map fun p => (p.1, ρ p.2)) with
      | some cs => k (.ret (.agg cs))
      | none => none
      else none
    | .array => bif (ti T).flds.all (fun p => Nat.beq p.1 (ti T).elem) && known (ti (ti T).elem) && offsOk (ti (ti T).elem).size 0 (ti T).flds && parts.toList.all (fun p => niceA (ρ p.2)) then match buildA ti (ti T).flds (ti T).zero (parts.toList.map fun p => (p.1, ρ p.2)) with
      | some cs => k (.ret (.agg cs))
      | none => none
      else none
    | _ => none
  | .buildSlice T len parts =>
    match parts.toList.map (fun p => ρ p.2) with
    | [.iface t (.ptr k0 0 0)] =>
      bif known (ti (ti T).elem) && Nat.beq (ti (ti T).elem).zero.length (ti (ti T).elem).size && Nat.beq (ti (ti T).elem).size 1 && Nat.beq parts.toList.length len && partsInOrder 0 parts.toList then
        match (ti T).kd with
        | .slice => k (.famNew t (ti (ti t).elem).code k0)
        | _ => none
      else none
    | _ =>
    bif known (ti (ti T).elem) && Nat.beq (ti (ti T).elem).zero.length (ti (ti T).elem).size && Nat.beq (ti (ti T).elem).code.size (ti (ti T).elem).size && Nat.blt 0 (ti (ti T).elem).size && Nat.beq parts.toList.length len && partsInOrder 0 parts.toList && Nat.ble (len * (ti (ti T).elem).size) 16777216 then
      match (ti T).kd, decAll (ti (ti T).elem).code (parts.toList.map fun p => cellsOf (ρ p.2)) with
      | .slice, some l => k (.new (.rows (ti (ti T).elem).code l false) fun id => .slice (ti (ti T).elem).size id 0 l.length (some l.length))
      | .slice, none => bif Nat.beq (ti (ti T).elem).size 1 && scals (parts.toList.map fun p => ρ p.2) then k (.new (.cells (parts.toList.map fun p => ρ p.2)) fun id => .slice 1 id 0 parts.toList.length (some parts.toList.length)) else none
      | _, _ => none
    else none
  | .load T a => match ρ a with
    | .ptr b i j => bif known (ti T) then k (.rd b i fun cs => partA (ti T) cs j) else none
    | .fptr b i j => bif known (ti T) then k (.rdF b i fun cs => partA (ti T) cs j) else none
    | _ => none
  | .store T a x => match ρ a, ρ x with
    | .ptr _ _ _, .undef => none
    | .ptr _ _ _, .tuple _ => none
    | .ptr b i j, v => bif known (ti T) && Nat.beq (cellsOf v).length (ti T).size && scals (cellsOf v) then k (.wr b i j (cellsOf v)) else none
    | .fptr _ _ _, .undef => none
    | .fptr _ _ _, .tuple _ => none
    | .fptr b i j, v => bif known (ti T) && Nat.beq (cellsOf v).length (ti T).size && scals (cellsOf v) then k (.wrF b i j (cellsOf v)) else none
    | _, _ => none
  | .nilCheck x => match ρ x with
    | .ptr b i j => k (.ret (.ptr b i j))
    | .fptr b i j => k (.ret (.fptr b i j))
    | .func f cs => k (.ret (.func f cs))
    | _ => none
  | .binOp op T x y _ => match (ti T).kd with
    | .struct => match ρ x, ρ y, op with
      | .agg a, .agg b, .eql => bif (ti T).eq && fits ti 0 (ti T).flds a then (match eqCells a b with | some r => k (.ret (.bool r)) | none => none) else none
      | .agg a, .agg b, .neq => bif (ti T).eq && fits ti 0 (ti T).flds a then (match eqCells a b with | some r => k (.ret (.bool (!r))) | none => none) else none
      | _, _, _ => none
    | .ptr => match ρ x, ρ y, op with
      | .nilp, .nilp, .eql => k (.ret (.bool true))
      | .nilp, .nilp, .neq => k (.ret (.bool false))
      | .nilp, .ptr .., .eql => k (.ret (.bool false))
      | .nilp, .ptr .., .neq => k (.ret (.bool true))
      | .ptr .., .nilp, .eql => k (.ret (.bool false))
      | .ptr .., .nilp, .neq => k (.ret (.bool true))
      | _, _, _ => none
    | .bool => match ρ x, ρ y, op with
      | .bool a, .bool b, .eql => k (.ret (.bool (a == b)))
      | .bool a, .bool b, .neq => k (.ret (.bool (!(a == b))))
      | _, _, _ => none
    | .int _ => match ρ x, ρ y with
      | .int kx a, .int ky b => intK op kx a ky b fun v => k (.ret v)
      | _, _ => none
    | .str => match ρ x, ρ y, op with
      | .str a, .str b, .eql => k (.ret (.bool (a.data.toList == b.data.toList)))
      | .str a, .str b, .neq => k (.ret (.bool (!(a.data.toList == b.data.toList))))
      | _, _, _ => none
    | _ => none
  | .unOp op _ x => match op, ρ x with
    | .not, .bool b => k (.ret (.bool (!b)))
    | .neg, .int i n => k (.ret (.int i (i.wrap (0 - n))))
    | _, _ => none
  | .convert S T x => match (ti S).kd, ρ x, (ti T).kd with
    | .int _, .int _ n, .int j => k (.ret (.int j (j.wrap n)))
    | .str, .str s, .str => k (.ret (.str s))
    | _, _, _ => none
  | .makeInterface T x => match (ti T).kd with
    | .iface => none
    | .other => none
    | _ => k (.ret (.iface T (ρ x)))
  | .makeFunc (.func f) first caps => bif Nat.beq first.toList.length 0 then k (.ret (.func f (caps.toList.map ρ))) else none
  | .slice T x lo hi mx => match mx with
    | none => sliceK ti T (ρ x) (lo.map ρ) (hi.map ρ) fun v => k (.ret v)
    | some _ => none
  | .fieldAddr T x f => match (ti T).kd, ρ x, fldA (ti T) f with
    | .struct, .ptr b i j, some (ft, off) => bif known (ti ft) && Nat.blt 0 (ti ft).size then k (.ret (.ptr b i (j + off))) else none
    | .struct, .fptr b i j, some (ft, off) => bif known (ti ft) && Nat.blt 0 (ti ft).size then k (.ret (.fptr b i (j + off))) else none
    | _, _, _ => none
  | .field T x f => match (ti T).kd, ρ x, fldA (ti T) f with
    | .struct, .agg cs, some (ft, off) => bif known (ti ft) then (match partA (ti ft) cs off with | some v => k (.ret v) | none => none) else none
    | _, _, _ => none
  | .indexAddr T x i => match (ti T).kd, ρ x, ρ i with
    | .slice, .slice sz b lo len _, .int _ n => bif known (ti (ti T).elem) && Nat.beq sz (ti (ti T).elem).size then (bif inB n len then k (.ret (.ptr b (n.toNat + lo) 0)) else none) else none
    | .array, .ptr b r j, .int _ n => bif known (ti (ti T).elem) then (bif inB n (ti T).flds.length then k (.ret (.ptr b r (j + n.toNat * (ti (ti T).elem).size))) else none) else none
    | _, _, _ => none
  | .index T x i => match (ti T).kd, ρ x, ρ i with
    | .str, .str s, .int _ n => bif inB n s.size then k (.ret (.int .u8 (byteAt s n.toNat))) else none
    | _, _, _ => none
  | .typeAssert x _ T ok => match (ti T).kd, ρ x with
    | .iface, _ => none
    | .other, _ => none
    | _, .nili => bif ok && zOk (ti T) then k (.ret (.tuple [zeroA (ti T), .bool false])) else none
    | _, .iface t v => bif Nat.beq t T then (bif ok then k (.ret (.tuple [v, .bool true])) else k (.ret v))
        else (bif ok && zOk (ti T) then k (.ret (.tuple [zeroA (ti T), .bool false])) else none)
    | _, _ => none
  | .extract x i => match ρ x with
    | .tuple vs => match vs[i]? with | some v => k (.ret v) | none => none
    | _ => none
  | .call c => callK ti ρ c k
  | _ => none

/-! stores -/
def getB : List Blk → Nat → Blk
  | [], _ => .dead
  | b :: _, 0 => b
  | _ :: r, n + 1 => getB r n

def setB : List Blk → Nat → Blk → List Blk
  | [], _, _ => []
  | _ :: r, 0, x => x :: r
  | b :: r, n + 1, x => b :: setB r n x

def openRow {R : Type} (b : Blk) (i : Nat) (k : List AVal → Option R) : Option R :=
  match b with
  | .dead => none
  | .var cs => bif Nat.beq i 0 then k cs else none
  | .rows c l _ => match l[i]? with
    | some x => c.open x k
    | none => none
  | .fam .. => none
  | .cells cs => match cs[i]? with | some v => k [v] | none => none

/-- a row anew: over the row that was, or whole -/
def setRow {R : Type} (b : Blk) (i j : Nat) (cs : List AVal) (k : Blk → Option R) : Option R :=
  match b with
  | .dead => none
  | .fam .. => none
  | .cells _ => none
  | .var old => bif Nat.beq i 0 && Nat.ble (j + cs.length) old.length then k (.var (old.take j ++ cs ++ old.drop (j + cs.length))) else none
  | .rows c l ro => bif ro then none else
    (bif Nat.beq cs.length c.size && Nat.beq j 0 then
      (match c.dec cs with
       | some x => (bif Nat.blt i l.length then k (.rows c (l.set i x) ro) else none)
       | none => none)
     else match l[i]? with
      | some y => c.open y fun old => bif Nat.ble (j + cs.length) old.length then (match c.dec (old.take j ++ cs ++ old.drop (j + cs.length)) with
        | some x => k (.rows c (l.set i x) ro)
        | none => none) else none
      | none => none)

def castRows (c d : Cd) (l : List c.El) : Option (List d.El) := if h : c = d then some (h ▸ l) else none

/-- a cell of a slice of pointers -/
def cellA (t b : Nat) : Option Nat → List AVal
  | none => [.nili]
  | some q => [.iface t (.fptr b q 0)]

def shiftF (k : Nat) : Option Nat → Option Nat
  | none => none
  | some q => some (q + k)

/-- a cell that is written -/
def cellD (t b : Nat) : List AVal → Option (Option Nat)
  | [.nili] => some none
  | [.iface t' (.fptr b' q 0)] => bif Nat.beq t' t && Nat.beq b' b then some (some q) else none
  | _ => none

def cutL {α : Type} (l : List α) (lo n : Nat) : List α := (l.drop lo).take n

def rowsOf (c : Cd) (σ : List Blk) : Option (Nat × Nat × Nat) → Option (List c.El)
  | none => some []
  | some (b, lo, n) => match getB σ b with
    | .rows d l _ => match castRows d c l with
      | some l => some (cutL l lo n)
      | none => none
    | _ => none

structure FamD where
  c : Cd
  l : List (Option Nat)
  f : List c.El

def famOf (σ : List Blk) : Option (Nat × Nat × Nat) → Option (Nat × Nat × FamD)
  | none => none
  | some (b, lo, n) => match getB σ b with
    | .fam t c l f => some (b, t, ⟨c, cutL l lo n, f⟩)
    | _ => none

def killB (σ : List Blk) : Option (Nat × Nat × Nat) → List Blk
  | none => σ
  | some (b, _, _) => setB σ b .dead

def fillRows {α : Type} (x : α) : Nat → List α → List α
  | 0, l => l
  | _ + 1, [] => []
  | n + 1, _ :: l => x :: fillRows x n l

/-! what is reached -/
def ptrsL : List (List Nat) → List Nat
  | [] => []
  | x :: r => x ++ ptrsL r

mutual
def ptrsV : AVal → List Nat
  | .ptr b _ _ => [b]
  | .fptr b _ _ => [b]
  | .slice _ b _ _ _ => [b]
  | .iface _ v => ptrsV v
  | .func _ cs => ptrsVs cs
  | .agg cs => ptrsVs cs
  | .tuple cs => ptrsVs cs
  | _ => []
def ptrsVs : List AVal → List Nat
  | [] => []
  | v :: vs => ptrsV v ++ ptrsVs vs
end

def ptrsB : Blk → List Nat
  | .var cs => ptrsVs cs
  | .cells cs => ptrsVs cs
  | _ => []

def memB (b : Nat) : List Nat → Bool
  | [] => false
  | x :: r => Nat.beq x b || memB b r

def reach (σ : List Blk) : Nat → List Nat → List Nat → List Nat
  | 0, _, acc => acc
  | _ + 1, [], acc => acc
  | n + 1, b :: todo, acc => bif memB b acc || Nat.ble σ.length b then reach σ n todo acc else reach σ n (ptrsB (getB σ b) ++ todo) (acc ++ [b])

def idx (b : Nat) : List Nat → Nat → Option Nat
  | [], _ => none
  | x :: r, n => bif Nat.beq x b then some n else idx b r (n + 1)

mutual
def renV (ρ : Nat → Option Nat) : AVal → AVal
  | .ptr b i j => match ρ b with | some c => .ptr c i j | none => .undef
  | .fptr b i j => match ρ b with | some c => .fptr c i j | none => .undef
  | .slice sz b lo len cap => match ρ b with | some c => .slice sz c lo len none | none => .undef
  | .iface t v => .iface t (renV ρ v)
  | .func f cs => .func f (renVs ρ cs)
  | .agg cs => .agg (renVs ρ cs)
  | .tuple cs => .tuple (renVs ρ cs)
  | .undef => .undef
  | .bool b => .bool b
  | .int k n => .int k n
  | .str s => .str s
  | .nilp => .nilp
  | .nils => .nils
  | .nili => .nili
  | .nilf => .nilf
def renVs (ρ : Nat → Option Nat) : List AVal → List AVal
  | [] => []
  | v :: vs => renV ρ v :: renVs ρ vs
end

def renB (ρ : Nat → Option Nat) : Blk → Blk
  | .var cs => .var (renVs ρ cs)
  | .cells cs => .cells (renVs ρ cs)
  | b => b

def subStore (σ : List Blk) (ids : List Nat) : List Blk := ids.map fun b => renB (fun x => idx x ids 0) (getB σ b)

/-- back: what the callee calls j -/
def backId (ids : List Nat) (top : Nat) (j : Nat) : Option Nat :=
  match ids[j]? with
  | some b => some b
  | none => some (top + (j - ids.length))

def splice (ρ : Nat → Option Nat) : List Nat → List Blk → List Blk → List Blk
  | [], σ, rest => σ ++ rest.map (renB ρ)
  | b :: ids, σ, x :: rest => splice ρ ids (setB σ b (renB ρ x)) rest
  | _ :: _, σ, [] => σ

/-! what a call that changes nothing leaves as it was -/
def isIn (b : Nat) (ids : List Nat) : Bool := match idx b ids 0 with | some _ => true | none => false
mutual
def keptV (ids : List Nat) : AVal → Bool
  | .ptr b _ _ => isIn b ids
  | .fptr b _ _ => isIn b ids
  | .slice _ b _ _ none => isIn b ids
  | .slice _ _ _ _ (some _) => false
  | .iface _ v => keptV ids v
  | .func _ cs => keptVs ids cs
  | .agg cs => keptVs ids cs
  | .tuple cs => keptVs ids cs
  | _ => true
def keptVs (ids : List Nat) : List AVal → Bool
  | [] => true
  | v :: vs => keptV ids v && keptVs ids vs
end
def keptB (ids : List Nat) : Blk → Bool
  | .var cs => keptVs ids cs
  | .cells cs => keptVs ids cs
  | _ => true
def keepsAll (σ : List Blk) (ids : List Nat) : List Nat → Bool
  | [] => true
  | b :: r => keptB ids (getB σ b) && keepsAll σ ids r

/-- pointers that stand as they stood -/
def sameV : AVal → AVal → Bool
  | .ptr b i j, .ptr b' i' j' => Nat.beq b b' && Nat.beq i i' && Nat.beq j j'
  | .iface t (.ptr b i j), .iface t' (.ptr b' i' j') => Nat.beq t t' && (Nat.beq b b' && Nat.beq i i' && Nat.beq j j')
  | .nilp, .nilp => true
  | _, _ => false
def sameVs : List AVal → List AVal → Bool
  | [], [] => true
  | x :: xs, y :: ys => sameV x y && sameVs xs ys
  | _, _ => false
def sameB : Blk → Blk → Bool
  | .var xs, .var ys => sameVs xs ys
  | .cells xs, .cells ys => sameVs xs ys
  | _, _ => false

def runPrim {R : Type} (Γ : Env) (p : Prim) (σ : List Blk) (k : AVal → List Blk → List Nat → List Nat → Option R) : Option R :=
  match p with
  | .ret v => k v σ [] []
  | .rd b i f => match getB σ b with
    | .fam t _ l _ => match l[i]? with
      | some x => (match x with
        | none => (match f [.nili] with | some v => k v σ [b] [] | none => none)
        | some q => (match f [.iface t (.fptr b q 0)] with | some v => k v σ [b] [] | none => none))
      | none => none
    | blk => openRow blk i fun cs => match f cs with | some v => k v σ [b] [] | none => none
  | .wr b i j cs => match getB σ b with
    | .fam t c l fm => bif Nat.beq j 0 && Nat.blt i l.length then (match cellD t b cs with
      | some x => k (.tuple []) (setB σ b (.fam t c (l.set i x) fm)) [] [b]
      | none => none) else none
    | blk => setRow blk i j cs fun blk => k (.tuple []) (setB σ b blk) [] [b]
  | .rdF b i f => match getB σ b with
    | .fam _ c _ fm => match fm[i]? with
      | some x => c.open x fun cs => match f cs with | some v => k v σ [b] [] | none => none
      | none => none
    | _ => none
  | .wrF b i j cs => match getB σ b with
    | .fam t c l fm => match fm[i]? with
      | some y => c.open y fun old => bif Nat.ble (j + cs.length) old.length then (match c.dec (old.take j ++ cs ++ old.drop (j + cs.length)) with
        | some x => k (.tuple []) (setB σ b (.fam t c l (fm.set i x))) [] [b]
        | none => none) else none
      | none => none
    | _ => none
  | .famNew t c b => match getB σ b with
    | .var cs => match c.dec cs with
      | some x => k (.slice 1 σ.length 0 1 (some 1)) (setB σ b .dead ++ [.fam t c [some 0] [x]]) [] [b, σ.length]
      | none => none
    | _ => none
  | .new blk v => bif blk.wr then k (v σ.length) (σ ++ [blk]) [] [σ.length] else none
  | .app c x kill y =>
    match famOf σ y with
    | some (b2, t2, ⟨c2, l2, f2⟩) => (match x with
      | none => k (.slice c.size σ.length 0 l2.length none) (setB σ b2 .dead ++ [.fam t2 c2 l2 f2]) [] [b2, σ.length]
      | some (b, lo, len) => (match getB σ b with
        | .fam t d l f => bif Nat.beq t t2 && !(Nat.beq b b2) then (match castRows d c2 f with
          | some f => k (.slice c.size σ.length 0 (cutL l lo len ++ l2.map (shiftF f.length)).length none) (setB (setB σ b .dead) b2 .dead ++ [.fam t2 c2 (cutL l lo len ++ l2.map (shiftF f.length)) (f ++ f2)]) [] [b, b2, σ.length]
          | none => none) else none
        | _ => none))
    | none => match rowsOf c σ x, rowsOf c σ y with
    | some l, some l2 =>
      bif kill then
        (match x with
         | some (b, _, _) => bif (getB σ b).wr then k (.slice c.size σ.length 0 (l ++ l2).length none) (setB σ b .dead ++ [.rows c (l ++ l2) false]) (match y with | some (b2, _, _) => [b2] | none => []) [b, σ.length] else none
         | none => none)
      else k (.slice c.size σ.length 0 (l ++ l2).length none) (σ ++ [.rows c (l ++ l2) false]) ((match x with | some (b, _, _) => [b] | none => []) ++ (match y with | some (b2, _, _) => [b2] | none => [])) [σ.length]
    | _, _ => none
  | .fill b lo n cs => match getB σ b with
    | .fam t c l fm => (match cs with
      | [.nili] => bif Nat.ble (lo + n) l.length then k (.tuple []) (setB σ b (.fam t c (l.take lo ++ fillRows none n (l.drop lo)) fm)) [] [b] else none
      | _ => none)
    | .rows c l ro => bif ro then none else match c.dec cs with
      | some x => bif Nat.ble (lo + n) l.length then k (.tuple []) (setB σ b (.rows c (l.take lo ++ fillRows x n (l.drop lo)) ro)) [] [b] else none
      | none => none
    | _ => none
  | .call f args =>
    let ids := reach σ 4096 (ptrsVs args) []
    Γ R f (renVs (fun x => idx x ids 0) args) (subStore σ ids) fun v σ' =>
      match σ' with
      | [] => bif keepsAll σ ids ids then k (renV (backId ids σ.length) v) σ ids [] else none
      | b' :: σ'' =>
        let ρ := backId ids σ.length
        k (renV ρ v) (splice ρ ids σ (b' :: σ'')) ids ((ids.filter fun b => (getB σ b).wr && !sameB (getB σ b) (getB (splice ρ ids σ (b' :: σ'')) b)) ++ (List.range ((b' :: σ'').length - ids.length)).map (σ.length + ·))

structure St where
  tm : List (Nat × AVal)
  σ : List Blk

inductive Ex where
  | normal | exit (id : Nat) | ret

def putT (tm : List (Nat × AVal)) (dst : Option Nat) (v : AVal) : List (Nat × AVal) :=
  match dst with
  | some d => (d, v) :: tm
  | none => tm

abbrev Log := List (Nat × List Nat × List Nat)

def addLog (i : Nat) (rd wr : List Nat) (log : Log) : Log := match rd, wr with
  | [], [] => log
  | _, _ => (i, rd, wr) :: log

def dstOf (ops : List Oper) (j : Nat) : Option Nat := match ops[j]? with | some o => o.dst | none => none

def dstOk (nt : Nat) : Option Nat → Bool
  | none => true
  | some d => Nat.blt d nt

def stepA {R : Type} (ti : Nat → TyI) (Γ : Env) (nt : Nat) (o : Oper) (i : Nat) (st : St) (log : Log) (K : St → Log → Option R) : Option R :=
  bif dstOk nt o.dst then
    primK ti (evalA st.tm) o.op fun p => runPrim Γ p st.σ fun v σ rd wr => K ⟨putT st.tm o.dst v, σ⟩ (addLog i rd wr log)
  else none

def skipA {R : Type} (nt : Nat) (o : Oper) (st : St) (log : Log) (K : St → Log → Option R) : Option R :=
  bif dstOk nt o.dst then K ⟨putT st.tm o.dst (.tuple []), st.σ⟩ log else none

def runOps {R : Type} (ti : Nat → TyI) (Γ : Env) (nt : Nat) (ops : List Oper) : List Oper → Nat → St → Log → (St → Log → Option R) → Option R
  | [], _, st, log, K => K st log
  | o :: rest, i, st, log, K =>
    match o.guard with
    | none => stepA ti Γ nt o i st log fun st log => runOps ti Γ nt ops rest (i + 1) st log K
    | some (j, want) => match dstOf ops j with
      | none => none
      | some t => match getT st.tm t with
        | .bool b => bif b then
              (bif want then stepA ti Γ nt o i ⟨(t, .bool true) :: st.tm, st.σ⟩ log fun st log => runOps ti Γ nt ops rest (i + 1) st log K
               else skipA nt o ⟨(t, .bool true) :: st.tm, st.σ⟩ log fun st log => runOps ti Γ nt ops rest (i + 1) st log K)
            else
              (bif want then skipA nt o ⟨(t, .bool false) :: st.tm, st.σ⟩ log fun st log => runOps ti Γ nt ops rest (i + 1) st log K
               else stepA ti Γ nt o i ⟨(t, .bool false) :: st.tm, st.σ⟩ log fun st log => runOps ti Γ nt ops rest (i + 1) st log K)
        | .tuple [] => skipA nt o st log fun st log => runOps ti Γ nt ops rest (i + 1) st log K
        | _ => none

/-! a region that draws its order -/
def bindsA (e : Edge) : Bool := match e.ground with
  | .textOnly _ => false
  | .gcOnly _ => false
  | _ => true

/-- for each operation, those that must stand ahead of it (a mask) -/
def predOf (acc : List Nat) : List Edge → Nat
  | [] => 0
  | e :: r => bif bindsA e then Nat.lor (Nat.lor (Nat.shiftLeft 1 e.on) (acc.getD e.on 0)) (predOf acc r) else predOf acc r

def preds : List Oper → List Nat → List Nat
  | [], acc => acc
  | o :: r, acc => preds r (acc ++ [predOf acc o.after.toList])

def inMask (m i : Nat) : Bool := Nat.testBit m i

def meets : List Nat → List Nat → Bool
  | [], _ => false
  | x :: r, b => memB x b || meets r b

def clash (x y : Nat × List Nat × List Nat) : Bool := meets x.2.2 y.2.1 || meets x.2.2 y.2.2 || meets x.2.1 y.2.2

def orderOk1 (ps : List Nat) (e : Nat × List Nat × List Nat) : Log → Bool
  | [] => true
  | d :: r => (!clash e d || inMask (ps.getD e.1 0) d.1) && orderOk1 ps e r

def orderOk (ps : List Nat) : Log → Bool
  | [] => true
  | e :: r => orderOk1 ps e r && orderOk ps r

def namesOf (ops : List Oper) (o : Oper) : List Nat :=
  (match o.guard with | some (g, _) => (match dstOf ops g with | some d => [d] | none => []) | none => []) ++
  o.op.operands.toList.filterMap (fun | .tmp t => some t | _ => none)

/-- who writes slot t -/
def writerOf (t : Nat) : List Oper → Nat → Option Nat
  | [], _ => none
  | o :: r, i => match o.dst with
    | some d => bif Nat.beq d t then some i else writerOf t r (i + 1)
    | none => writerOf t r (i + 1)

def namesOk (ops : List Oper) (ps : List Nat) (j : Nat) : List Nat → Bool
  | [] => true
  | t :: r => (match writerOf t ops 0 with
    | none => true
    | some i => bif Nat.blt i j then inMask (ps.getD j 0) i else (bif Nat.blt j i then inMask (ps.getD i 0) j else false)) && namesOk ops ps j r

def slotsOk (ops : List Oper) (ps : List Nat) : List Oper → Nat → Bool
  | [], _ => true
  | o :: r, j => namesOk ops ps j (namesOf ops o) && (match o.dst with
    | some d => (match writerOf d ops 0 with | some i => Nat.beq i j | none => false)
    | none => true) && slotsOk ops ps r (j + 1)

def backOk : Nat → List Oper → Bool
  | _, [] => true
  | i, o :: r => o.after.toList.all (fun e => !bindsA e || Nat.blt e.on i) && backOk (i + 1) r

def drawOk (ops : List Oper) (log : Log) : Bool :=
  backOk 0 ops && slotsOk ops (preds ops []) ops 0 && orderOk (preds ops []) log

def restrict (keep : List Nat) (tm : List (Nat × AVal)) : List (Nat × AVal) := keep.map fun t => (t, getT tm t)

def rangeL : Nat → List Nat → List Nat
  | 0, acc => acc
  | n + 1, acc => rangeL n (n :: acc)

def reachM (σ : List Blk) (m : Nat) (roots : List Nat) : List Nat :=
  reach σ 4096 (ptrsL ((rangeL m []).map fun b => ptrsB (getB σ b)) ++ roots) (rangeL m [])

structure Wd where
  /-- 0: a temp that is nil; 1: a cell that is nil (told as empty); 2: a block that is moved to the end; 3: a block that is let go -/
  kind : Nat
  tmp : Bool
  a : Nat
  path : List Nat
  j : Nat
  c : Cd
  /-- a slice of pointers, boxed so -/
  t : Option Nat

def wSz (h : Wd) : Nat := match h.t with | none => h.c.size | some _ => 1
def wBlk (h : Wd) : Blk := match h.t with | none => .rows h.c [] false | some t => .fam t h.c [] []

/-- the block that a value leads to -/
def leadV : AVal → Nat → Nat
  | .ptr c _ _, _ => c
  | .slice _ c _ _ _, _ => c
  | .iface _ v, n => leadV v n
  | _, n => n
def leadB (σ : List Blk) (b j : Nat) : Nat := match getB σ b with
  | .var cs => leadV (cs.getD j .undef) σ.length
  | .cells cs => leadV (cs.getD j .undef) σ.length
  | _ => σ.length
def follow (σ : List Blk) : Nat → List Nat → Nat
  | b, [] => b
  | b, j :: r => follow σ (leadB σ b j) r

def setCellV : List AVal → Nat → AVal → List AVal
  | [], _, _ => []
  | _ :: r, 0, x => x :: r
  | b :: r, n + 1, x => b :: setCellV r n x

def setTm : List (Nat × AVal) → Nat → AVal → List (Nat × AVal)
  | [], _, _ => []
  | (u, v) :: r, t, x => bif Nat.beq u t then (u, x) :: r else (u, v) :: setTm r t x

def renTm (ρ : Nat → Option Nat) : List (Nat × AVal) → List (Nat × AVal)
  | [] => []
  | (t, v) :: r => (t, renV ρ v) :: renTm ρ r

def rootW (h : Wd) (st : St) : Nat := bif h.tmp then leadV (getT st.tm h.a) st.σ.length else h.a
def blkW (h : Wd) (st : St) : Nat := follow st.σ (rootW h st) h.path

/-- a nil slice is told as an empty one -/
def widT (h : Wd) (st : St) : St :=
  match getT st.tm h.a with
  | .nils => ⟨setTm st.tm h.a (.slice (wSz h) st.σ.length 0 0 none), st.σ ++ [wBlk h]⟩
  | _ => st
def widC (h : Wd) (b : Nat) (st : St) : St :=
  match getB st.σ b with
  | .var cs => match cs.getD h.j .undef with
    | .nils => ⟨st.tm, setB st.σ b (.var (setCellV cs h.j (.slice (wSz h) st.σ.length 0 0 none))) ++ [wBlk h]⟩
    | _ => st
  | _ => st

/-- b's new place -/
def mvR (b n : Nat) : Nat → Option Nat := fun x => bif Nat.beq x b then some n else some x
/-- a block is moved to the end -/
def moveW (b : Nat) (st : St) : St :=
  bif (getB st.σ b).wr then ⟨renTm (mvR b st.σ.length) st.tm, (setB st.σ b .dead).map (renB (mvR b st.σ.length)) ++ [renB (mvR b st.σ.length) (getB st.σ b)]⟩ else st
/-- a block is let go -/
def dropW (b : Nat) (st : St) : St :=
  bif (getB st.σ b).wr then ⟨st.tm, setB st.σ b .dead⟩ else st

def widen1 (h : Wd) (st : St) : St :=
  match h.kind with
  | 0 => widT h st
  | 1 => widC h (blkW h st) st
  | 2 => moveW (blkW h st) st
  | _ => dropW (blkW h st) st

def widen : List Wd → St → St
  | [], st => st
  | h :: r, st => widen r (widen1 h st)

def ptrsTm : List (Nat × AVal) → List Nat
  | [] => []
  | (_, v) :: r => ptrsV v ++ ptrsTm r

/-- what isn't reached is let go; the first m blocks stay -/
def gc (m : Nat) (st : St) : St :=
  let ids := reachM st.σ m (ptrsTm st.tm)
  ⟨renTm (fun x => idx x ids 0) st.tm, subStore st.σ ids⟩

def norm (m : Nat) (ws : List Wd) (st : St) : St := match ws with
  | [] => gc m st
  | ws => gc m (widen ws (gc m st))

def clean (m : Nat) (keep : List Nat × List Wd) (st : St) : St := norm m keep.2 ⟨restrict keep.1 st.tm, st.σ⟩

def firstReg : Code → Nat
  | .region id _ _ => id
  | .seq a _ => firstReg a
  | .block _ b => firstReg b
  | .loop b => firstReg b
  | .cond _ a _ => firstReg a
  | _ => 0

def iterF {R : Type} (F : St → (Ex → St → Option R) → Option R) (cl : St → St) : Nat → St → (Ex → St → Option R) → Option R
  | 0, _, _ => none
  | n + 1, st, K => F st fun e st' => match e with
    | .normal => iterF F cl n (cl st') K
    | .exit id => K (.exit id) st'
    | .ret => K .ret st'

def iterK {R : Type} (F : St → (Ex → St → Option R) → Option R) (cl : St → St) (n : Nat) (K : Ex → St → Option R) : Ex → St → Option R :=
  fun e st' => match e with
    | .normal => iterF F cl n (cl st') K
    | .exit id => K (.exit id) st'
    | .ret => K .ret st'

structure Cfg where
  ti : List TyI
  keepR : Nat → List Nat
  keepL : Nat → List Nat × List Wd
  fuel : Nat
  m : Nat
  nt : Nat

def interp {R : Type} (C : Cfg) (Γ : Env) : Code → St → (Ex → St → Option R) → Option R
  | .skip, st, K => K .normal st
  | .region id ops draw, st, K =>
    runOps (tyAt C.ti) Γ C.nt ops.toList ops.toList 0 st [] fun st' log =>
      bif draw then (bif drawOk ops.toList log then K .normal ⟨restrict (C.keepR id) st'.tm, st'.σ⟩ else none)
      else K .normal ⟨restrict (C.keepR id) st'.tm, st'.σ⟩
  | .seq a b, st, K => interp C Γ a st fun e st' => match e with
    | .normal => interp C Γ b st' K
    | .exit id => K (.exit id) st'
    | .ret => K .ret st'
  | .cond c a b, st, K => match evalA st.tm c with
    | .bool t => bif t then interp C Γ a st K else interp C Γ b st K
    | _ => none
  | .block id c, st, K => interp C Γ c st fun e st' => match e with
    | .exit i => bif Nat.beq i id then K .normal st' else K (.exit i) st'
    | .normal => K .normal st'
    | .ret => K .ret st'
  | .loop c, st, K => iterF (fun st K => interp C Γ c st K) (clean C.m (C.keepL (firstReg c))) C.fuel (clean C.m (C.keepL (firstReg c)) st) K
  | .exit id, st, K => K (.exit id) st
  | .ret, st, K => K .ret st
  | .rangeFunc .., _, _ => none
  | .scope _, _, _ => none
  | .label _, _, _ => none
  | .goto _, _, _ => none
  | .refuse _, _, _ => none

def resultsK {R : Type} (ti : Nat → TyI) (st : St) : List ResultVar → (List AVal → Option R) → Option R
  | [], k => k []
  | .tmp t :: r, k => resultsK ti st r fun vs => k (getT st.tm t :: vs)
  | .cell a T :: r, k => match getT st.tm a with
    | .ptr b i j => bif known (ti T) then (openRow (getB st.σ b) i fun cs => match partA (ti T) cs j with
      | some v => resultsK ti st r fun vs => k (v :: vs)
      | none => none) else none
    | _ => none

def one : List AVal → AVal
  | [v] => v
  | vs => .tuple vs

def finish {R : Type} (m : Nat) (ws : List Wd) (σ : List Blk) (v : AVal) (k : AVal → List Blk → Option R) : Option R :=
  let st := norm m ws ⟨[(0, v)], σ⟩
  k (getT st.tm 0) st.σ

def argsT : Nat → List AVal → List (Nat × AVal)
  | _, [] => []
  | n, v :: r => (n, v) :: argsT (n + 1) r

structure FCfg where
  keepR : Nat → List Nat
  keepL : Nat → List Nat × List Wd
  keepF : List Wd

def Cfg.of (ti : List TyI) (F : FCfg) (fuel m nt : Nat) : Cfg := ⟨ti, F.keepR, F.keepL, fuel, m, nt⟩

def retK {R : Type} (ti : List TyI) (F : FCfg) (fn : Func) (m : Nat) (k : AVal → List Blk → Option R) : Ex → St → Option R :=
  fun e st => match e with
    | .exit _ => none
    | .normal => resultsK (tyAt ti) st fn.results.toList fun vs => finish m F.keepF st.σ (one vs) k
    | .ret => resultsK (tyAt ti) st fn.results.toList fun vs => finish m F.keepF st.σ (one vs) k

def fnEval {R : Type} (ti : List TyI) (F : FCfg) (fuel : Nat) (Γ : Env) (fn : Func) (args : List AVal) (σ : List Blk) (k : AVal → List Blk → Option R) : Option R :=
  match fn.body with
  | none => none
  | some c =>
    bif Nat.ble args.length fn.ntmps then interp (Cfg.of ti F fuel σ.length fn.ntmps) Γ c ⟨argsT 0 args, σ⟩ (retK ti F fn σ.length k) else none

/-! places in a code -/
def codeAt : Code → List Nat → Code
  | c, [] => c
  | .seq a _, 0 :: p => codeAt a p
  | .seq _ b, _ :: p => codeAt b p
  | .cond _ a _, 0 :: p => codeAt a p
  | .cond _ _ b, _ :: p => codeAt b p
  | .block _ c, _ :: p => codeAt c p
  | .loop c, _ :: p => codeAt c p
  | c, _ => c

/-- what follows the code at a place (within one loop's body) -/
def contOf {R : Type} (C : Cfg) (Γ : Env) : Code → List Nat → (Ex → St → Option R) → (Ex → St → Option R)
  | _, [], K => K
  | .seq a b, 0 :: p, K => contOf C Γ a p fun e st' => match e with
    | .normal => interp C Γ b st' K
    | .exit id => K (.exit id) st'
    | .ret => K .ret st'
  | .seq _ b, _ :: p, K => contOf C Γ b p K
  | .cond _ a _, 0 :: p, K => contOf C Γ a p K
  | .cond _ _ b, _ :: p, K => contOf C Γ b p K
  | .block id c, _ :: p, K => contOf C Γ c p fun e st' => match e with
    | .exit i => bif Nat.beq i id then K .normal st' else K (.exit i) st'
    | .normal => K .normal st'
    | .ret => K .ret st'
  | _, _, K => K

def Env.none : Env := fun _ _ _ _ _ => Option.none
end Go.Proofs.YtdgipcjigbagfaaGreat.AB
