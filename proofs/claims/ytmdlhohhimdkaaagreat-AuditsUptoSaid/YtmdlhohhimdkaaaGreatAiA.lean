/- An abstract interpreter of the model's code, proved sound: values, heaps, operations. -/
import Derived.Orders
import Derived.Lib.Overlaps
import Derived.Laws.Sem
import Derived.Laws.Strings
import Derived.Laws.Cells
set_option linter.all false
namespace Go.AI

/-- Abstract values: pointers and slices name abstract blocks by their place in the abstract heap; 'any' tells nothing. 'lst' is a slice, 'fp' a pointer, whose cells are known and are never written again. -/
inductive AVal where
  | any
  | bool (b : Bool)
  | int (k : IntKind) (n : Int)
  | str (s : List UInt8)
  | nilp
  | ptr (b o : Nat)
  | nils
  | odd (a : Addr)
  | raw (v : Value)
  | sl (b o len cap : Nat) (ex : Bool)
  | empt (b o sh : Nat)
  | lst (blk base len cap : Nat) (cs : List AVal)
  | fp (blk off : Nat) (cs : List AVal)
  | nilm
  | map (b : Nat)
  | nilf
  | fn (f : Fn) (first cap : List AVal)
  | nili
  | iface (t : TypeId) (v : AVal)
  | agg (cs : List AVal)
  | tup (vs : List AVal)
  deriving Inhabited

/-- An entry of an abstract map. -/
structure AEnt where
  key : AVal
  val : AVal
  born : Nat
  deriving Inhabited

/-- Abstract objects: 'adt' stands for an object of a data type of the program (several real blocks). -/
inductive AObj (A : Type) where
  | dead
  | cells (e : TypeId) (cs : List AVal)
  | map (es : List AEnt) (clock : Nat)
  | adt (a : A)
  deriving Inhabited

abbrev AHeap (A : Type) := List (AObj A)

/-- Every cell holds something that is known. -/
def AVal.scalar : AVal → Bool
  | .any | .raw _ | .agg _ | .tup _ => false
  | _ => true
def AVal.cs : AVal → List AVal
  | .agg cs => cs
  | v => [v]

/-- A value that stands in the code. -/
def abs0 : Value → AVal
  | .bool b => .bool b
  | .int k n => .int k n
  | .string s => .str s.data.toList
  | .pointer none => .nilp
  | .slice none 0 0 => .nils
  | .map none => .nilm
  | .nilFunc => .nilf
  | .nilIface => .nili
  | _ => .any

variable {A : Type}

def AObj.read : AObj A → Option (List AVal)
  | .cells _ cs => some cs
  | _ => none

/-- Cells from o on are overwritten. -/
def over (cs : List AVal) (o : Nat) (new : List AVal) : List AVal := cs.take o ++ new ++ cs.drop (o + new.length)

/-! Shapes of types that are compared by their cells. -/
inductive Sh where
  | b | i | s
  | st (fs : List (Nat × Nat × Sh))
  deriving Inhabited

def scEq : AVal → AVal → Option Bool
  | .bool a, .bool b => some (a == b)
  | .int k a, .int k' b => if k = k' then some (a == b) else none
  | .str a, .str b => some (a == b)
  | _, _ => none

mutual
def shEq : Sh → List AVal → List AVal → Option Bool
  | .b, [.bool a], [.bool b] => some (a == b)
  | .i, [.int k a], [.int k' b] => if k = k' then some (a == b) else none
  | .s, [.str a], [.str b] => some (a == b)
  | .st fs, x, y => shEqs fs x y
  | _, _, _ => none
def shEqs : List (Nat × Nat × Sh) → List AVal → List AVal → Option Bool
  | [], _, _ => some true
  | (o, n, s) :: r, x, y =>
    match shEq s ((x.drop o).take n) ((y.drop o).take n), shEqs r x y with
    | some a, some b => some (a && b)
    | _, _ => none
end

/-! Operations on evaluated operands. -/
def wrapI (k : IntKind) (n : Int) : Int := k.wrap n

def bits (k : IntKind) (f : BitVec k.bits → BitVec k.bits → BitVec k.bits) (x y : Int) : Int :=
  k.wrap (f (BitVec.ofInt k.bits x) (BitVec.ofInt k.bits y)).toNat

def binI (op : BinOp) (k : IntKind) (x y : Int) : Option AVal :=
  match op with
  | .add => some (.int k (k.wrap (x + y)))
  | .sub => some (.int k (k.wrap (x - y)))
  | .mul => some (.int k (k.wrap (x * y)))
  | .quo => if y = 0 then none else some (.int k (k.wrap (x.tdiv y)))
  | .rem => if y = 0 then none else some (.int k (x.tmod y))
  | .and => some (.int k (bits k (· &&& ·) x y))
  | .or => some (.int k (bits k (· ||| ·) x y))
  | .xor => some (.int k (bits k (· ^^^ ·) x y))
  | .andNot => some (.int k (bits k (fun a b => a &&& ~~~b) x y))
  | .eql => some (.bool (x == y))
  | .neq => some (.bool (x != y))
  | .lss => some (.bool (x < y))
  | .leq => some (.bool (x ≤ y))
  | .gtr => some (.bool (x > y))
  | .geq => some (.bool (x ≥ y))
  | _ => none

def shiftI (op : BinOp) (k : IntKind) (x y : Int) : Option AVal :=
  if y < 0 then none else
  match op with
  | .shl => some (.int k (k.wrap (x * 2 ^ (min y.toNat k.bits))))
  | .shr => some (.int k (x.fdiv (2 ^ (min y.toNat k.bits))))
  | _ => none

def binS (op : BinOp) (x y : List UInt8) : Option AVal :=
  match op with
  | .add => if x.length + y.length < 9223372036854775808 then some (.str (x ++ y)) else none
  | .eql => some (.bool (x == y))
  | .neq => some (.bool (x != y))
  | _ => none

/-- What is asked of ==, !=: the kind of the type; the shape where it is one that is compared by its cells. -/
inductive Cmp where
  | other | ptr | sl | mp | ifc | bl | shape (s : Sh)

/-- == with nil, and on bools. -/
def eqN : Cmp → AVal → AVal → Option Bool
  | .bl, .bool a, .bool b => some (a == b)
  | .ptr, .nilp, .nilp => some true
  | .ptr, .nilp, .ptr _ _ => some false
  | .ptr, .ptr _ _, .nilp => some false
  | .sl, .nils, .nils => some true
  | .sl, .sl _ _ _ _ _, .nils => some false
  | .sl, .empt _ _ _, .nils => some false
  | .sl, .lst _ _ _ _ _, .nils => some false
  | .sl, .odd _, .nils => some false
  | .ptr, .nilp, .fp _ _ _ => some false
  | .ptr, .fp _ _ _, .nilp => some false
  | .mp, .nilm, .nilm => some true
  | .mp, .map _, .nilm => some false
  | .ifc, .nili, .nili => some true
  | .ifc, .iface _ _, .nili => some false
  | .ifc, .nili, .iface _ _ => some false
  | _, _, _ => none

def binV (op : BinOp) (c : Cmp) (x y : AVal) : Option AVal :=
  match x, y with
  | .int k a, .int k' b =>
    match op with
    | .shl | .shr => shiftI op k a b
    | _ => if k = k' then binI op k a b else none
  | .str a, .str b => binS op a b
  | .agg a, .agg b =>
    match c, op with
    | .shape s, .eql => (shEq s a b).map .bool
    | .shape s, .neq => (shEq s a b).map (fun r => .bool (!r))
    | _, _ => none
  | x, y => match op with
    | .eql => (eqN c x y).map .bool
    | .neq => (eqN c x y).map (fun r => .bool (!r))
    | _ => none

section combinators
variable (K : AVal → Prop) (KH : AVal → AHeap A → Prop)

def optP (r : Option AVal) (K : AVal → Prop) : Prop := match r with | some v => K v | none => False
def optH (r : Option (AVal × AHeap A)) (K : AVal → AHeap A → Prop) : Prop := match r with | some (v, h) => K v h | none => False

def pickP (c a b : AVal) (K : AVal → Prop) : Prop := match c with | .bool c => K (if c = true then a else b) | _ => False
def binP (op : BinOp) (c : Cmp) (x y : AVal) (K : AVal → Prop) : Prop := optP (binV op c x y) K
def notP (x : AVal) (K : AVal → Prop) : Prop := match x with | .bool b => K (.bool (!b)) | _ => False
def negP (x : AVal) (K : AVal → Prop) : Prop := match x with | .int k n => K (.int k (k.wrap (0 - n))) | _ => False
def cplP (x : AVal) (K : AVal → Prop) : Prop := match x with | .int k n => K (.int k (bits k (· ^^^ ·) (if k.signed then -1 else k.max) n)) | _ => False
def extP (x : AVal) (i : Nat) (K : AVal → Prop) : Prop := match x with | .tup vs => optP (vs[i]?) K | _ => False
def cviP (k : IntKind) (x : AVal) (K : AVal → Prop) : Prop := match x with | .int _ n => K (.int k (k.wrap n)) | _ => False
def nilP (x : AVal) (K : AVal → Prop) : Prop := match x with | .ptr b o => K (.ptr b o) | .fp b o cs => K (.fp b o cs) | .fn (.func f) a c => K (.fn (.func f) a c) | _ => False
def fadP (off : Nat) (x : AVal) (K : AVal → Prop) : Prop := match x with | .ptr b o => K (.ptr b (o + off)) | .fp b o cs => K (.fp b (o + off) (cs.drop off)) | _ => False
def fldP (off n : Nat) (agg : Bool) (x : AVal) (K : AVal → Prop) : Prop :=
  match x with
  | .agg cs => if agg then K (.agg ((cs.drop off).take n)) else optP (cs[off]?) K
  | _ => False
def lnsP (x : AVal) (K : AVal → Prop) : Prop := match x with | .str s => K (.int .i64 s.length) | _ => False
def lenP (x : AVal) (K : AVal → Prop) : Prop :=
  match x with
  | .nils => K (.int .i64 0)
  | .sl _ _ n _ _ => K (.int .i64 n)
  | .empt _ _ _ => K (.int .i64 0)
  | .lst _ _ n _ _ => K (.int .i64 n)
  | .odd _ => K (.int .i64 0)
  | _ => False
def minP : List AVal → (AVal → Prop) → Prop
  | [.int k x, .int _ y], K => K (.int k (if y < x then y else x))
  | [.int k x, .int _ y, .int _ z], K => K (.int k (if z < (if y < x then y else x) then z else (if y < x then y else x)))
  | _, _ => False
def maxP : List AVal → (AVal → Prop) → Prop
  | [.int k x, .int _ y], K => K (.int k (if y > x then y else x))
  | _, _ => False
/-- The byte of a string. -/
def sixP (x i : AVal) (K : AVal → Prop) : Prop :=
  match x, i with
  | .str s, .int _ n => if 0 ≤ n then (match s[n.toNat]? with | some b => K (.int .u8 b.toNat) | none => False) else False
  | _, _ => False
/-- An element's address. -/
def idxP (sz : Nat) (x i : AVal) (K : AVal → Prop) : Prop :=
  match x, i with
  | .sl b o len _ _, .int _ n => if 0 ≤ n ∧ n < len then K (.ptr b (o + n.toNat * sz)) else False
  | .lst b o len _ cs, .int _ n => if 0 ≤ n ∧ n < len then K (.fp b (o + n.toNat * sz) (cs.drop (n.toNat * sz))) else False
  | _, _ => False
/-- An element's address, of an array. -/
def ixaP (len sz : Nat) (x i : AVal) (K : AVal → Prop) : Prop :=
  match x, i with
  | .ptr b o, .int _ n => if 0 ≤ n ∧ n < len then K (.ptr b (o + n.toNat * sz)) else False
  | _, _ => False
/-- An element of an array's value. -/
def ixvP (len sz : Nat) (agg : Bool) (x i : AVal) (K : AVal → Prop) : Prop :=
  match x, i with
  | .agg cs, .int _ n => if 0 ≤ n ∧ n < len then (if agg then K (.agg ((cs.drop (n.toNat * sz)).take sz)) else optP (cs[n.toNat * sz]?) K) else False
  | _, _ => False

def bnd (d : Nat) : Option AVal → Option Int
  | none => some d
  | some (.int _ n) => some n
  | some _ => none
/-- s[l:h] of a string. -/
def subP (x : AVal) (lo hi : Option AVal) (K : AVal → Prop) : Prop :=
  match x with
  | .str s =>
    match bnd 0 lo, bnd s.length hi with
    | some l, some h => if 0 ≤ l ∧ l ≤ h ∧ h ≤ s.length then K (.str ((s.take h.toNat).drop l.toNat)) else False
    | _, _ => False
  | _ => False
/-- x[l:h:m] of a slice. -/
def rslP (sz : Nat) (x : AVal) (lo hi mx : Option AVal) (K : AVal → Prop) : Prop :=
  match x with
  | .nils =>
    match bnd 0 lo, bnd 0 hi, bnd 0 mx with
    | some l, some h, some m => if l = 0 ∧ h = 0 ∧ m = 0 then K .nils else False
    | _, _, _ => False
  | .empt b o sh =>
    match bnd 0 lo, bnd 0 hi, mx with
    | some l, some h, none => if l = 0 ∧ h = 0 then K (.empt b o sh) else False
    | _, _, _ => False
  | .sl b o len cap ex =>
    match bnd 0 lo, bnd len hi, bnd cap mx with
    | some l, some h, some m =>
      if 0 ≤ l ∧ l ≤ h ∧ h ≤ m ∧ m ≤ cap then
        (if l < m ∨ l = 0 then K (.sl b (o + l.toNat * sz) (h - l).toNat (m - l).toNat (ex || mx.isSome))
         else if ex || mx.isSome then K (.sl b o 0 0 true) else K (.empt b o (l.toNat * sz)))
      else False
    | _, _, _ => False
  | .lst b o len cap cs =>
    match bnd 0 lo, bnd len hi, bnd cap mx with
    | some l, some h, some m =>
      if 0 ≤ l ∧ l ≤ h ∧ h ≤ m ∧ m ≤ cap ∧ h ≤ len then
        K (.lst b (if l < m ∨ l = 0 then o + l.toNat * sz else o) (h - l).toNat (m - l).toNat ((cs.take (h.toNat * sz)).drop (l.toNat * sz)))
      else False
    | _, _, _ => False
  | _ => False

def fillA (zero : List AVal) : List (Nat × Nat × AVal) → Option (List AVal)
  | [] => some zero
  | (o, n, v) :: r => if v.cs.length = n ∧ o + n ≤ zero.length ∧ v.cs.all AVal.scalar = true then fillA (over zero o v.cs) r else none
def bldP (zero : List AVal) (ps : List (Nat × Nat × AVal)) (K : AVal → Prop) : Prop :=
  match fillA zero ps with | some cs => K (.agg cs) | none => False

variable (h : AHeap A)

def newP (e : TypeId) (cs : List AVal) (h : AHeap A) (K : AVal → AHeap A → Prop) : Prop := K (.ptr h.length 0) (h ++ [.cells e cs])
def boxP (e : TypeId) (n : Nat) (x : AVal) (h : AHeap A) (K : AVal → AHeap A → Prop) : Prop :=
  if x.cs.length = n ∧ x.cs.all AVal.scalar = true then K (.ptr h.length 0) (h ++ [.cells e x.cs]) else False
def bslP (e : TypeId) (n : Nat) (zeros : List AVal) (ps : List (Nat × Nat × AVal)) (h : AHeap A) (K : AVal → AHeap A → Prop) : Prop :=
  match fillA zeros ps with
  | some cs => if cs.all AVal.scalar = true then K (.sl h.length 0 n n true) (h ++ [.cells e cs]) else False
  | none => False
def cellsAt (h : AHeap A) (b : Nat) : Option (List AVal) := (h[b]?).bind AObj.read
def ldP (n : Nat) (agg : Bool) (x : AVal) (h : AHeap A) (K : AVal → Prop) : Prop :=
  match x with
  | .ptr b o =>
    match cellsAt h b with
    | some cs => if agg then (if o + n ≤ cs.length then K (.agg ((cs.drop o).take n)) else False) else optP (cs[o]?) K
    | none => False
  | .fp _ _ cs => if agg then (if n ≤ cs.length then K (.agg (cs.take n)) else False) else optP (cs[0]?) K
  | _ => False
/-- What a load yields. -/
def ldV (n : Nat) (agg : Bool) (x : AVal) (h : AHeap A) : Option AVal :=
  match x with
  | .ptr b o =>
    match cellsAt h b with
    | some cs => if agg then (if o + n ≤ cs.length then some (.agg ((cs.drop o).take n)) else none) else cs[o]?
    | none => none
  | .fp _ _ cs => if agg then (if n ≤ cs.length then some (.agg (cs.take n)) else none) else cs[0]?
  | _ => none
def setAt (h : AHeap A) (b o : Nat) (new : List AVal) : Option (AHeap A) :=
  match h[b]? with
  | some (.cells e cs) => if o + new.length ≤ cs.length ∧ new.all AVal.scalar = true then some (h.set b (.cells e (over cs o new))) else none
  | _ => none
def hP (r : Option (AHeap A)) (K : AHeap A → Prop) : Prop := match r with | some h => K h | none => False
def stP (n : Nat) (x v : AVal) (h : AHeap A) (K : AHeap A → Prop) : Prop :=
  match x with
  | .ptr b o => if v.cs.length = n then hP (setAt h b o v.cs) K else False
  | _ => False
/-- The cells of a slice (or of a string, as bytes). -/
def srcOf (sz : Nat) (h : AHeap A) : AVal → Option (Nat × List AVal)
  | .nils => some (0, [])
  | .empt _ _ _ => some (0, [])
  | .str s => if sz = 1 then some (s.length, s.map fun b => .int .u8 b.toNat) else none
  | .sl b o len _ _ =>
    match cellsAt h b with
    | some cs => if o + len * sz ≤ cs.length then some (len, (cs.drop o).take (len * sz)) else none
    | none => none
  | .lst _ _ len _ cs => if cs.length = len * sz then some (len, cs) else none
  | .odd _ => some (0, [])
  | _ => none
/-- append(x, y...). -/
def appV (e : TypeId) (sz bytes : Nat) (x y : AVal) (h : AHeap A) : Option (AVal × AHeap A) :=
  match srcOf sz h y with
  | none => none
  | some (n, new) =>
    match x with
    | .nils =>
      if n = 0 then some (.nils, h)
      else if 0 < bytes ∧ n * bytes ≤ 140737488355328 then some (.sl h.length 0 n n false, h ++ [.cells e new]) else none
    | .sl b o len cap ex =>
      if len + n ≤ cap then (setAt h b (o + len * sz) new).map fun h' => (.sl b o (len + n) cap ex, h')
      else match h[b]? with
        | some (.cells e' cs) =>
          if 0 < bytes ∧ o + len * sz ≤ cs.length ∧ ((cap = 0 ∧ ex = true ∧ (len + n) * bytes ≤ 140737488355328) ∨ (2 * (len + n) + 1000) * bytes ≤ 140737488355328) then
            if ex then some (.sl h.length 0 (len + n) (len + n) false, h ++ [.cells e ((cs.drop o).take (len * sz) ++ new)])
            else if e' = e ∧ o + cap * sz = cs.length ∧ new.all AVal.scalar = true then some (.sl h.length 0 (len + n) (len + n) false, h.set b .dead ++ [.cells e ((cs.drop o).take (len * sz) ++ new)])
            else none
          else none
        | _ => none
    | .lst b o len cap cs =>
      if n = 0 ∧ len ≤ cap then some (.lst b o len cap cs, h)
      else if cap < len + n ∧ 0 < bytes ∧ cs.length = len * sz ∧ ((cap = 0 ∧ (len + n) * bytes ≤ 140737488355328) ∨ (2 * (len + n) + 1000) * bytes ≤ 140737488355328) then some (.sl h.length 0 (len + n) (len + n) false, h ++ [.cells e (cs ++ new)])
      else none
    | _ => none
def appP (e : TypeId) (sz bytes : Nat) (x y : AVal) (h : AHeap A) (K : AVal → AHeap A → Prop) : Prop := optH (appV e sz bytes x y h) K
/-- append(x, make([]T, n)...), where it moves. -/
def apzV (e : TypeId) (sz bytes : Nat) (zero : List AVal) (x n : AVal) (h : AHeap A) : Option (AVal × AHeap A) :=
  match x, n with
  | .sl b o len cap true, .int .i64 n =>
    match cellsAt h b with
    | some cs =>
      if 0 < n ∧ 0 < sz ∧ cap < len + n.toNat ∧ 0 < bytes ∧ (2 * (len + n.toNat) + 1000) * bytes ≤ 140737488355328 ∧ o + len * sz ≤ cs.length ∧ zero.length = sz then
        some (.sl h.length 0 (len + n.toNat) (len + n.toNat) false, h ++ [.cells e ((cs.drop o).take (len * sz) ++ (List.replicate n.toNat zero).flatten)])
      else none
    | none => none
  | _, _ => none
def apzP (e : TypeId) (sz bytes : Nat) (zero : List AVal) (x n : AVal) (h : AHeap A) (K : AVal → AHeap A → Prop) : Prop := optH (apzV e sz bytes zero x n h) K
def capP (x : AVal) (K : AVal → Prop) : Prop :=
  match x with
  | .nils => K (.int .i64 0)
  | .sl _ _ _ cap true => K (.int .i64 cap)
  | .lst _ _ _ cap _ => K (.int .i64 cap)
  | _ => False
def cpyP (sz : Nat) (x y : AVal) (h : AHeap A) (K : AVal → AHeap A → Prop) : Prop :=
  match srcOf sz h y, x with
  | some (_, _), .nils => K (.int .i64 0) h
  | some (n, cs), .sl b o len _ _ =>
    hP (setAt h b o (cs.take ((min n len) * sz))) fun h' => K (.int .i64 (min n len : Nat)) h'
  | _, _ => False
def clrP (sz : Nat) (zero : List AVal) (x : AVal) (h : AHeap A) (K : AHeap A → Prop) : Prop :=
  match x with
  | .nils => K h
  | .empt _ _ _ => K h
  | .lst _ _ len _ _ => if len = 0 then K h else False
  | .sl b o len _ _ => if len = 0 then K h else if zero.length = sz then hP (setAt h b o (List.replicate len zero).flatten) K else False
  | _ => False
def mkslP (e : TypeId) (sz bytes : Nat) (zero : List AVal) (l c : AVal) (h : AHeap A) (K : AVal → AHeap A → Prop) : Prop :=
  match l, c with
  | .int .i64 l, .int .i64 c =>
    if 0 ≤ l ∧ l ≤ c ∧ c * bytes ≤ 140737488355328 ∧ 0 < bytes ∧ zero.length = sz then K (.sl h.length 0 l.toNat c.toNat true) (h ++ [.cells e (List.replicate c.toNat zero).flatten]) else False
  | _, _ => False
def s2bP (e : TypeId) (x : AVal) (h : AHeap A) (K : AVal → AHeap A → Prop) : Prop :=
  match x with
  | .str s => K (.sl h.length 0 s.length s.length false) (h ++ [.cells e (s.map fun b => .int .u8 b.toNat)])
  | _ => False
def byteOf : AVal → Option UInt8
  | .int .u8 n => some (UInt8.ofNat n.toNat)
  | _ => none
def b2sP (x : AVal) (h : AHeap A) (K : AVal → Prop) : Prop :=
  match x with
  | .nils => K (.str [])
  | .empt _ _ _ => K (.str [])
  | .sl b o len _ _ =>
    match cellsAt h b with
    | some cs => if o + len ≤ cs.length then (match ((cs.drop o).take len).mapM byteOf with | some s => K (.str s) | none => False) else False
    | none => False
  | .lst _ _ len _ cs => if cs.length = len then (match cs.mapM byteOf with | some s => K (.str s) | none => False) else False
  | _ => False
def mkiP (t : TypeId) (x : AVal) (K : AVal → Prop) : Prop := if x.cs.all AVal.scalar = true then K (.iface t x) else False
def mkfP (f : Fn) (a c : List AVal) (K : AVal → Prop) : Prop := if a.all AVal.scalar = true ∧ c.all AVal.scalar = true then K (.fn f a c) else False
/-- x.(T) of a concrete type. -/
def asrP (t : TypeId) (zero : AVal) (ok : Bool) (x : AVal) (K : AVal → Prop) : Prop :=
  match x with
  | .iface t' v => if t' = t then K (if ok then .tup [v, .bool true] else v) else if ok then K (.tup [zero, .bool false]) else False
  | .nili => if ok then K (.tup [zero, .bool false]) else False
  | _ => False
/-- Keys: 'ks' says that they are strings, else they are numbers. -/
def sameKey : Bool → AVal → AVal → Option Bool
  | false, .int k a, .int k' b => if k = k' then some (a == b) else none
  | true, .str a, .str b => some (a == b)
  | _, _, _ => none
def findK (ks : Bool) (k : AVal) : List AEnt → Nat → Option (Option (Nat × AVal))
  | [], _ => some none
  | e :: es, i =>
    match sameKey ks k e.key with
    | some true => some (some (i, e.val))
    | some false => findK ks k es (i + 1)
    | none => none
def mapAt (h : AHeap A) : AVal → Option (List AEnt)
  | .nilm => some []
  | .map b => match h[b]? with | some (.map es _) => some es | _ => none
  | _ => none
def keyOk : Bool → AVal → Bool
  | false, .int _ _ => true
  | true, .str _ => true
  | _, _ => false
def lkP (ks : Bool) (zero : AVal) (ok : Bool) (m k : AVal) (h : AHeap A) (K : AVal → Prop) : Prop :=
  if keyOk ks k = true then
    match mapAt h m with
    | some es =>
      match findK ks k es 0 with
      | some (some (_, v)) => K (if ok then .tup [v, .bool true] else v)
      | some none => K (if ok then .tup [zero, .bool false] else zero)
      | none => False
    | none => False
  else False
def mkmP (h : AHeap A) (K : AVal → AHeap A → Prop) : Prop := K (.map h.length) (h ++ [.map [] 0])
def mentV (ks : Bool) (zero : AVal) (m k : AVal) (h : AHeap A) : Option (AVal × AHeap A) :=
  if keyOk ks k = true ∧ zero.scalar = true then
    match m with
    | .map b =>
      match h[b]? with
      | some (.map es clock) =>
        match findK ks k es 0 with
        | some (some (i, v)) => some (.tup [v, .int .i64 ((es[i]?.map (·.born)).getD 0 : Nat)], h.set b (.map (es.modify i fun e => { e with key := k }) clock))
        | some none => some (.tup [zero, .int .i64 clock], h.set b (.map (es ++ [⟨k, zero, clock⟩]) (clock + 1)))
        | none => none
      | _ => none
    | _ => none
  else none
def estV (m s v : AVal) (h : AHeap A) : Option (AHeap A) :=
  if v.scalar = true then
    match m, s with
    | .map b, .int _ s =>
      match h[b]? with
      | some (.map es clock) =>
        match es.findIdx? (fun e => (e.born : Int) == s) with
        | some i => some (h.set b (.map (es.modify i fun e => { e with val := v }) clock))
        | none => none
      | _ => none
    | _, _ => none
  else none
/-- m[k] = v. -/
def mupV (ks : Bool) (m k v : AVal) (h : AHeap A) : Option (AHeap A) :=
  if keyOk ks k = true ∧ v.scalar = true then
    match m with
    | .map b =>
      match h[b]? with
      | some (.map es clock) =>
        match findK ks k es 0 with
        | some (some (i, _)) => some (h.set b (.map (es.modify i fun e => { e with key := k, val := v }) clock))
        | some none => some (h.set b (.map (es ++ [⟨k, v, clock⟩]) (clock + 1)))
        | none => none
      | _ => none
    | _ => none
  else none
def mupP (ks : Bool) (m k v : AVal) (h : AHeap A) (K : AHeap A → Prop) : Prop := hP (mupV ks m k v h) K
def mentP (ks : Bool) (zero m k : AVal) (h : AHeap A) (K : AVal → AHeap A → Prop) : Prop := optH (mentV ks zero m k h) K
def estP (m s v : AVal) (h : AHeap A) (K : AHeap A → Prop) : Prop := hP (estV m s v h) K

/-- A guarded run of operations that ends in a pick. -/
def condP (c : AVal) (b : Bool) (X : (AVal → AHeap A → Prop) → Prop) (v₀ : AVal) (h : AHeap A) (k : AVal → AHeap A → Prop) : Prop :=
  match c with
  | .bool c => if c = b then X k else k v₀ h
  | _ => False
def iteP (c : AVal) (a b : Prop) : Prop := match c with | .bool c => if c = true then a else b | _ => False
/-- Where ways meet again: between, the heap may be told anew ('G'), but for the first n objects' places. -/
def joinP (G : Nat → AHeap A → List AVal → (List AVal → AHeap A → Prop) → Prop) (n : Nat) (X : (List AVal → AHeap A → Prop) → Prop) (k : List AVal → AHeap A → Prop) : Prop :=
  ∃ J : List AVal → AHeap A → Prop, X J ∧ ∀ x h, J x h → G n h x k
def loopP (G : Nat → AHeap A → List AVal → (List AVal → AHeap A → Prop) → Prop) (B : List AVal → AHeap A → (List AVal → AHeap A → Prop) → Prop) (x : List AVal) (h : AHeap A) : Prop :=
  ∃ (I : Nat → List AVal → AHeap A → Prop) (n : Nat), G h.length h x (I n) ∧ ∀ m y g, I m y g → ∃ J : List AVal → AHeap A → Prop, B y g J ∧ ∀ y' g', J y' g' → G h.length g' y' (fun z k => ∃ m', m' < m ∧ I m' z k)
end combinators
end Go.AI
namespace Go.AI
variable {A : Type} (P : Program) (S : FuncId → List AVal → AHeap A → (AVal → AHeap A → Prop) → Prop) (G : Nat → AHeap A → List AVal → (List AVal → AHeap A → Prop) → Prop)

/-! A tower of names: what mentions the last of them is unfolded by the kernel ahead of the combinators. -/
def tall0 : Nat := 0
def tall1 : Nat := tall0
def tall2 : Nat := tall1
def tall3 : Nat := tall2
def tall4 : Nat := tall3
def tall5 : Nat := tall4
def tall6 : Nat := tall5
def tall7 : Nat := tall6
def tall8 : Nat := tall7
def tall9 : Nat := tall8
def tall10 : Nat := tall9
def tall11 : Nat := tall10
def tall12 : Nat := tall11
def tall13 : Nat := tall12
def tall14 : Nat := tall13
def tall15 : Nat := tall14
def tall16 : Nat := tall15
def tall17 : Nat := tall16
def tall18 : Nat := tall17
def tall19 : Nat := tall18
def tall20 : Nat := tall19
def tall21 : Nat := tall20
def tall22 : Nat := tall21
def tall23 : Nat := tall22
def tall24 : Nat := tall23
def tall25 : Nat := tall24
def tall26 : Nat := tall25
def tall27 : Nat := tall26
def tall28 : Nat := tall27
def tall29 : Nat := tall28
def tall30 : Nat := tall29
def tall31 : Nat := tall30
def tall32 : Nat := tall31
def tall33 : Nat := tall32
def tall34 : Nat := tall33
def tall35 : Nat := tall34
def tall36 : Nat := tall35
def tall37 : Nat := tall36
def tall38 : Nat := tall37
def tall39 : Nat := tall38
def tall40 : Nat := tall39
def tall41 : Nat := tall40
def tall42 : Nat := tall41
def tall43 : Nat := tall42
def tall44 : Nat := tall43
def tall45 : Nat := tall44
def tall46 : Nat := tall45
def tall47 : Nat := tall46
def tall48 : Nat := tall47
def tall49 : Nat := tall48
def tall50 : Nat := tall49
def tall51 : Nat := tall50
def tall52 : Nat := tall51
def tall53 : Nat := tall52
def tall54 : Nat := tall53
def tall55 : Nat := tall54
def tall56 : Nat := tall55
def tall57 : Nat := tall56
def tall58 : Nat := tall57
def tall59 : Nat := tall58
def tall60 : Nat := tall59
def tall61 : Nat := tall60
def tall62 : Nat := tall61
def tall63 : Nat := tall62
def tall64 : Nat := tall63
def tall65 : Nat := tall64
def tall66 : Nat := tall65
def tall67 : Nat := tall66
def tall68 : Nat := tall67
def tall69 : Nat := tall68
def tall70 : Nat := tall69
def tall71 : Nat := tall70
def tall72 : Nat := tall71
def tall73 : Nat := tall72
def tall74 : Nat := tall73
def tall75 : Nat := tall74
def tall76 : Nat := tall75
def tall77 : Nat := tall76
def tall78 : Nat := tall77
def tall79 : Nat := tall78
abbrev up {α : Sort _} (a : α) : α := (fun _ : Nat => a) tall79
abbrev Env := List (Nat × AVal)
def getE : Env → Nat → AVal
  | [], _ => .any
  | (s, v) :: r, n => match Nat.beq s n with | true => v | false => getE r n
def evT (t : Env) : Operand → AVal
  | .tmp n => getE t n
  | .const v => abs0 v
  | .func f => .fn (.func f) [] []
  | .global _ => .any

/-! Values are looked up so that the kernel holds them written out. -/
def getK : Env → Nat → (AVal → Prop) → Prop
  | [], _, K => (fun _ : Nat => K .any) tall79
  | (s, v) :: r, n, K => match Nat.beq s n with | true => K v | false => getK r n K
def put (t : Env) (d : Option Nat) (v : AVal) : Env :=
  match d with
  | none => t
  | some d => (d, v) :: t
def putK (t : Env) (d : Option Nat) (v : AVal) (K : Env → Prop) : Prop :=
  match d with
  | none => (fun _ : Nat => K t) tall79
  | some d => K ((d, v) :: t)
def evK (t : Env) (x : Operand) (K : AVal → Prop) : Prop :=
  match x with
  | .tmp n => getK t n K
  | .const v => K (abs0 v)
  | .func f => K (.fn (.func f) [] [])
  | .global _ => (fun _ : Nat => K .any) tall79
def forgetK : Env → List Nat → (Env → Prop) → Prop
  | t, [], K => (fun _ : Nat => K t) tall79
  | t, d :: ds, K => forgetK ((d, .any) :: t) ds K

def szOf (t : TypeId) : Nat := P.cellsOf t
def aggT (t : TypeId) : Bool := match P.underlying t with | some (.struct _) | some (.array _ _) => true | _ => false
def scalars (cs : List AVal) : Option (List AVal) := if cs.all AVal.scalar = true then some cs else none
def zeroC (t : TypeId) : Option (List AVal) := ((P.info? t).bind (·.zero)).bind fun z => scalars (z.cells.toList.map abs0)
def zeroV (t : TypeId) : Option AVal :=
  match (P.info? t).bind (·.zero) with
  | some (.agg cs) => (scalars (cs.toList.map abs0)).map .agg
  | some v => if (abs0 v).scalar = true then some (abs0 v) else none
  | none => none
def elemT (t : TypeId) : Option TypeId := match P.underlying t with | some (.slice e) => some e | _ => none
def fieldT (t : TypeId) (f : Nat) : Option Field := match P.underlying t with | some (.struct fs) => fs[f]? | _ => none

def tshape : Nat → TypeId → Option Sh
  | 0, _ => none
  | n + 1, t =>
    match P.underlying t with
    | some .bool => some .b
    | some (.int _) => some .i
    | some .string => some .s
    | some (.struct fs) => if P.stoodInHeld t = false ∧ fs.toList.all (fun f => f.name != "_") then (fs.toList.mapM fun f => (tshape n f.type).map fun s => (f.offset, P.cellsOf f.type, s)).map .st else none
    | _ => none
def isConst : Operand → Bool
  | .const _ => true
  | _ => false
def cmpOf (t : TypeId) (x y : Operand) : Cmp :=
  match P.underlying t with
  | some (.struct _) => match tshape P 20 t with | some s => if P.eqGuardType P.depth t = false then .shape s else .other | none => .other
  | some (.interface _) => if isConst x || isConst y then .ifc else .other
  | some (.pointer _) => .ptr
  | some (.slice _) => .sl
  | some (.map _ _) => .mp
  | some .bool => .bl
  | _ => .other

def whenT (t : TypeId) (p : Prop) : Prop := match P.underlying t with | some _ => p | none => (fun _ : Nat => False) tall79

def partsOf (t : TypeId) (ev : Operand → AVal) : List (Nat × Operand) → Option (List (Nat × Nat × AVal))
  | [] => some []
  | (i, x) :: r =>
    match fieldT P t i, partsOf t ev r with
    | some f, some l => some ((f.offset, P.cellsOf f.type, ev x) :: l)
    | _, _ => none
def fieldsOk (t : TypeId) : Bool := match P.underlying t with | some (.struct fs) => fs.toList.all fun f => (P.info? f.type).isSome | _ => false
def eltsOf (sz : Nat) (ev : Operand → AVal) : List (Nat × Operand) → List (Nat × Nat × AVal)
  | [] => []
  | (i, x) :: r => (i * sz, sz, ev x) :: eltsOf sz ev r
def args (ev : Operand → AVal) : List Operand → List AVal
  | [] => []
  | x :: r => ev x :: args ev r

def whenP (b : Bool) (p : Prop) : Prop := match b with | true => p | false => (fun _ : Nat => False) tall79

def iteT (b : Bool) (p q : Prop) : Prop := match b with | true => p | false => (fun _ : Nat => q) tall79

def builtinP (b : Builtin) (at_ : List TypeId) (xs : List AVal) (h : AHeap A) (K : AVal → AHeap A → Prop) : Prop :=
  match b, xs with
  | .len, [x] => match at_ with
    | [t] => match P.underlying t with
      | some .string => lnsP x fun v => K v h
      | some (.slice _) => lenP x fun v => K v h
      | _ => False
    | _ => False
  | .append, [x, y] => match at_ with
    | [t, u] => match elemT P t with
      | some e => match P.underlying u with
        | some .string | some (.slice _) => match zeroC P e with | some z => whenP (Nat.beq z.length (szOf P e)) <| whenT P e <| appP e (szOf P e) (P.bytesOf e) x y h K | none => False
        | some (.int _) => match zeroC P e with | some z => whenP (Nat.beq z.length (szOf P e)) <| whenT P e <| apzP e (szOf P e) (P.bytesOf e) z x y h K | none => False
        | _ => False
      | none => False
    | _ => False
  | .copy, [x, y] => match at_ with
    | t :: _ => match elemT P t with | some e => whenT P e <| cpyP (szOf P e) x y h K | none => False
    | _ => False
  | .cap, [x] => match at_ with
    | [t] => match P.underlying t with
      | some (.slice _) => capP x fun v => K v h
      | _ => False
    | _ => False
  | .min, xs => minP xs fun v => K v h
  | .max, xs => maxP xs fun v => K v h
  | .clear, [x] => match at_ with
    | [t] => match elemT P t with
      | some e => match zeroC P e with | some z => clrP (szOf P e) z x h fun h => K .any h | none => False
      | none => False
    | _ => False
  | _, _ => (fun _ : Nat => False) tall79


def callOk (g : FuncId) : Bool := match P.funcs[g]? with | some fn => fn.body.isSome && fn.name != "runtime.NumGoroutine" | none => false

def isExt (g : FuncId) : Bool := match P.funcs[g]? with | some fn => fn.body.isNone | none => false
/-- It is slices.overlaps. -/
def IsOvl (g : FuncId) : Prop :=
  ∃ fn T U e d, P.funcs[g]? = some fn ∧ (fn.name == "runtime.NumGoroutine") = false ∧ fn.body.isNone = true ∧ Extern.findNext fn = none ∧ Extern.find fn = some (Extern.SlicesOverlaps.overlaps #[T, T] #[U]) ∧ P.underlying T = some (.slice e) ∧ P.underlying e = some d
/-- Two slices in two blocks, the first of which bears no mark. -/
def ovlP (g : FuncId) (x y : AVal) (h : AHeap A) (K : AVal → Prop) : Prop :=
  IsOvl P g ∧
  match x, y with
  | .sl b _ _ _ _, .sl b' _ _ _ _ =>
    match h[b]?, h[b']? with
    | some (.cells e _), some (.cells _ cs) => b ≠ b' ∧ P.underlying e ≠ some (.int .u8) ∧ cs ≠ [] ∧ K (.bool false)
    | _, _ => False
  | _, _ => False
def extP2 (g : FuncId) (as : List AVal) (h : AHeap A) (K : AVal → AHeap A → Prop) : Prop :=
  match as with
  | [x, y] => ovlP P g x y h fun v => K v h
  | _ => (fun _ : Nat => False) tall79
/-- The call of a function value. -/
def dynP (v : AVal) (as : List AVal) (h : AHeap A) (K : AVal → AHeap A → Prop) : Prop :=
  match v with
  | .fn (.func g) a c => whenP (callOk P g) <| S g (a ++ (as ++ c)) h K
  | _ => (fun _ : Nat => False) tall79
def opP (t : Env) (o : Oper) (h : AHeap A) (K : AVal → AHeap A → Prop) : Prop :=
  let ev := evT t
  match o.op with
  | .move x | .assign x => evK t x fun v => K v h
  | .pick c a b => pickP (ev c) (ev a) (ev b) fun v => K v h
  | .alloc e => match zeroC P e with | some cs => newP e cs h K | none => False
  | .box e x => boxP e (szOf P e) (ev x) h K
  | .build t ps => match zeroC P t, partsOf P t ev ps.toList with | some z, some l => whenP (fieldsOk P t) <| bldP z l fun v => K v h | _, _ => False
  | .buildSlice t n ps => match elemT P t with
    | some e => match zeroC P e with
      | some z => whenP (Nat.ble (n * szOf P e) 16777216 && Nat.beq z.length (szOf P e)) <| bslP e n (List.replicate n z).flatten (eltsOf (szOf P e) ev ps.toList) h K
      | none => False
    | none => False
  | .load t a => whenT P t <| ldP (szOf P t) (aggT P t) (ev a) h fun v => K v h
  | .store t a x => whenT P t <| stP (szOf P t) (ev a) (ev x) h fun h => K .any h
  | .nilCheck x => nilP (ev x) fun v => K v h
  | .binOp op t x y _ => binP op (cmpOf P t x y) (ev x) (ev y) fun v => K v h
  | .unOp op _ x => match op with | .not => notP (ev x) fun v => K v h | .neg => negP (ev x) fun v => K v h | .xor => cplP (ev x) fun v => K v h | _ => False
  | .convert s d x => match P.underlying s, P.underlying d with
    | some (.int _), some (.int k) => cviP k (ev x) fun v => K v h
    | some .string, some .string => match ev x with | .str s => K (.str s) h | _ => False
    | some .string, some (.slice e) => match P.underlying e with | some (.int .u8) => whenP (Nat.beq (szOf P e) 1) <| s2bP e (ev x) h K | _ => False
    | some (.slice e), some .string => match P.underlying e with | some (.int .u8) => b2sP (ev x) h fun v => K v h | _ => False
    | _, _ => False
  | .makeInterface t x => match P.underlying t with | some (.interface _) | none => False | _ => mkiP t (ev x) fun v => K v h
  | .makeFunc fn a c => mkfP fn (args ev a.toList) (args ev c.toList) fun v => K v h
  | .makeMap _ none => mkmP h K
  | .makeSlice t l c => match elemT P t with
    | some e => match zeroC P e with | some z => mkslP e (szOf P e) (P.bytesOf e) z (ev l) (ev c) h K | none => False
    | none => False
  | .slice t x lo hi mx => match P.underlying t with
    | some .string => whenP mx.isNone <| subP (ev x) (lo.map ev) (hi.map ev) fun v => K v h
    | some (.slice e) => whenP (mx.isNone || hi.isSome) <| whenT P e <| rslP (szOf P e) (ev x) (lo.map ev) (hi.map ev) (mx.map ev) fun v => K v h
    | _ => False
  | .fieldAddr s x f => match fieldT P s f with
    | some f => whenP (!Nat.beq (P.cellsOf f.type) 0) <| fadP f.offset (ev x) fun v => K v h
    | none => False
  | .field t x f => match fieldT P t f with
    | some f => whenT P f.type <| fldP f.offset (P.cellsOf f.type) (aggT P f.type) (ev x) fun v => K v h
    | none => False
  | .indexAddr t x i => match P.underlying t with
    | some (.slice e) => whenT P e <| idxP (szOf P e) (ev x) (ev i) fun v => K v h
    | some (.array n e) => whenT P e <| ixaP n (szOf P e) (ev x) (ev i) fun v => K v h
    | _ => False
  | .index t x i => match P.underlying t with
    | some .string => sixP (ev x) (ev i) fun v => K v h
    | some (.array n e) => whenT P e <| ixvP n (szOf P e) (aggT P e) (ev x) (ev i) fun v => K v h
    | _ => False
  | .lookup t m k ok => match P.underlying t with
    | some (.map kt e) => match P.underlying kt with
      | some (.int _) => match zeroV P e with | some z => lkP false z ok (ev m) (ev k) h fun v => K v h | none => False
      | some .string => match zeroV P e with | some z => lkP true z ok (ev m) (ev k) h fun v => K v h | none => False
      | _ => False
    | _ => False
  | .mapEntry t m k => match P.underlying t with
    | some (.map kt e) => match P.underlying kt with
      | some (.int _) => match zeroV P e with | some z => mentP false z (ev m) (ev k) h K | none => False
      | some .string => match zeroV P e with | some z => mentP true z (ev m) (ev k) h K | none => False
      | _ => False
    | _ => False
  | .mapUpdate t m k v => match P.underlying t with
    | some (.map kt _) => match P.underlying kt with
      | some (.int _) => mupP false (ev m) (ev k) (ev v) h fun h => K .any h
      | some .string => mupP true (ev m) (ev k) (ev v) h fun h => K .any h
      | _ => False
    | _ => False
  | .entryStore _ m s v => estP (ev m) (ev s) (ev v) h fun h => K .any h
  | .typeAssert x _ t ok => match P.underlying t with
    | some (.interface _) | none => False
    | _ => match zeroV P t with | some z => asrP t z ok (ev x) fun v => K v h | none => False
  | .extract x i => extP (ev x) i fun v => K v h
  | .call c => match c.callee with
    | .value (.func g) => match isExt P g with | true => extP2 P g (args ev c.args.toList) h K | false => whenP (callOk P g) <| S g (args ev c.args.toList) h K
    | .value x => dynP P S (ev x) (args ev c.args.toList) h K
    | .builtin b => builtinP P b c.argTypes.toList (args ev c.args.toList) h K
    | _ => False
  | _ => (fun _ : Nat => False) tall79

def notPick (d : Nat) (o : Oper) : Bool := match o.op with | .pick (.tmp c) _ _ => c != d | _ => true
def dstOf (ops : Array Oper) (j : Nat) : Option Nat := (ops[j]?).bind (·.dst)
def dsts : List Oper → List Nat
  | [] => []
  | o :: r => match o.dst with | some d => d :: dsts r | none => dsts r
def forgetO : Env → List Oper → (Env → Prop) → Prop
  | t, [], K => (fun _ : Nat => K t) tall79
  | t, o :: r, K => match o.dst with | some d => forgetO ((d, .any) :: t) r K | none => forgetO t r K
/-- Up to the pick at d. -/
def spanK (d : Nat) : List Oper → (List Oper → List Oper → Prop) → Prop
  | [], _ => (fun _ : Nat => False) tall79
  | o :: r, K => match notPick d o with
    | true => spanK d r fun a b => K (o :: a) b
    | false => K [] (o :: r)
/-- Every operation of a guarded run is left out where its guard does not hold. -/
def segOk (ops : Array Oper) (j : Nat) (b : Bool) (d : Nat) : List Nat → List Oper → Bool
  | _, [] => true
  | sk, o :: r =>
    (match o.guard with
     | some (j', b') => (j' == j && b' == b) || (match dstOf ops j' with | some d' => sk.contains d' | none => false)
     | none => false) &&
    (match o.dst with
     | some e => e != d && segOk ops j b d (e :: sk) r
     | none => segOk ops j b d sk r)
def knownG (known : List (Nat × Bool)) : Option (Nat × Bool) → Bool
  | none => true
  | some g => known.contains g
def regG (ops : Array Oper) : Nat → List (Nat × Bool) → List Oper → Env → AHeap A → (Env → AHeap A → Prop) → Prop
  | 0, _, _, _, _, _ => (fun _ : Nat => False) tall79
  | _ + 1, _, [], t, h, K => K t h
  | n + 1, known, o :: os, t, h, K =>
    match knownG known o.guard with
    | true => opP P S t o h fun v h => putK t o.dst v fun t => regG ops n known os t h K
    | false => match o.guard with
      | none => False
      | some (j, b) =>
        match dstOf ops j with
        | none => False
        | some d =>
          spanK d os fun seg rest =>
          match rest with
          | [] => False
          | pk :: rest =>
            match pk.op, pk.dst with
            | .pick _ x y, some pd =>
              whenP (knownG known pk.guard && segOk ops j b d [] (o :: seg) && isConst (if b then y else x)) <|
                condP (evT t (.tmp d)) b
                  (fun k => regG ops n ((j, b) :: known) (o :: seg) t h fun t' h' => k (evT t' (if b then x else y)) h')
                  (evT t (if b then y else x)) h
                  (fun v h' => forgetO t (o :: seg) fun t => regG ops n known rest ((pd, v) :: t) h' K)
            | _, _ => False

/-! A region whose order is drawn: a certificate tells what is taken first, and where every order is gone over. -/
inductive Cert where
  | stop
  | take (i : Nat) (c : Cert)
  | skip (i : Nat) (c : Cert)
  | load (i : Nat) (c : Cert)
  | split (j : Nat) (a b : Cert)
  | known (j : Nat) (b : Bool) (c : Cert)
  | alt (i : Nat) (c r : Cert)
def memN (n : Nat) : List Nat → Bool
  | [] => false
  | x :: r => match Nat.beq x n with | true => true | false => memN n r
def numb : Nat → List Oper → List (Nat × Oper)
  | _, [] => []
  | n, o :: r => (n, o) :: numb (n + 1) r
def isReady (done : List Nat) (x : Nat × Oper) : Bool := !memN x.1 done && x.2.after.toList.all fun e => !Region.binds .any e || memN e.on done
/-- What is known of the picks: how one went, or that it was left out (none). -/
def lookG : List (Nat × Option Bool) → Nat → Option (Option Bool)
  | [], _ => none
  | (j, b) :: r, n => match Nat.beq j n with | true => some b | false => lookG r n
def guardOf (known : List (Nat × Option Bool)) : Option (Nat × Bool) → Option Bool
  | none => some true
  | some (j, b) => match lookG known j with | some (some c) => some (c == b) | some none => some false | none => none
/-- An operation that is left out yields nothing. -/
def deadK (i : Nat) (d : Option Nat) (known : List (Nat × Option Bool)) : List (Nat × Option Bool) := match d with | some _ => (i, none) :: known | none => known
def isTrue : Option Bool → Bool
  | some true => true
  | _ => false
def isFalse : Option Bool → Bool
  | some false => true
  | _ => false
def pureOp (o : Oper) : Bool :=
  match o.op with
  | .move _ | .assign _ | .pick _ _ _ | .nilCheck _ | .build _ _ | .binOp _ _ _ _ _ | .unOp _ _ _ | .makeInterface _ _ | .makeFunc _ _ _ | .slice _ _ _ _ _ | .fieldAddr _ _ _ | .field _ _ _ | .indexAddr _ _ _ | .index _ _ _ | .extract _ _ => true
  | .convert s d _ => match P.underlying s, P.underlying d with | some (.int _), some (.int _) => true | some .string, some .string => true | _, _ => false
  | .call c => match c.callee with | .builtin .len | .builtin .min | .builtin .max => true | _ => false
  | _ => false
def bindsOf : List Edge → List Nat
  | [] => []
  | e :: r => match Region.binds .any e with | true => e.on :: bindsOf r | false => bindsOf r
def edgesOf (ops : Array Oper) (i : Nat) : List Nat := match ops[i]? with | some o => bindsOf o.after.toList | none => []
/-- What some operations come behind. -/
def ancL (ops : Array Oper) : Nat → List Nat → List Nat → List Nat
  | 0, _, seen => seen
  | _ + 1, [], seen => seen
  | n + 1, i :: todo, seen => match memN i seen with | true => ancL ops n todo seen | false => ancL ops n (edgesOf ops i ++ todo) (i :: seen)
/-- Does operation j come behind operation i? -/
def ancB (ops : Array Oper) (j i : Nat) : Bool := memN i (ancL ops (ops.size * ops.size) (edgesOf ops j) [])
abbrev Held := Nat × Nat × Bool × AVal × AVal
/-- What was loaded ahead of its place is there still. -/
def heldP : List Held → AHeap A → Prop → Prop
  | [], _, p => (fun _ : Nat => p) tall79
  | (_, n, agg, a, v) :: r, h, p => ldV n agg a h = some v ∧ heldP r h p
def keepH (ops : Array Oper) (j : Nat) : List Held → List Held
  | [] => []
  | x :: r => match ancB ops j x.1 with | true => keepH ops j r | false => x :: keepH ops j r
def readies (done : List Nat) : List (Nat × Oper) → List Nat
  | [] => []
  | x :: r => match isReady done x with | true => x.1 :: readies done r | false => readies done r
def subN : List Nat → List Nat → Bool
  | [], _ => true
  | x :: r, l => memN x l && subN r l
def isB (b : Bool) : AVal → Bool
  | .bool c => c == b
  | _ => false
def regC (ops : Array Oper) (l : List (Nat × Oper)) : Cert → List Nat → List Nat → List (Nat × Option Bool) → List Held → Env → AHeap A → (Env → AHeap A → Prop) → Prop
  | .stop, _, done, _, _, t, h, K => whenP (subN (readies done l) []) <| K t h
  | .take i c, _, done, known, X, t, h, K =>
    match ops[i]? with
    | some o => whenP (isReady done (i, o) && isTrue (guardOf known o.guard) && pureOp P o) <| opP P S t o h fun v h => putK t o.dst v fun t => regC ops l c [] (i :: done) known X t h K
    | none => (fun _ : Nat => False) tall79
  | .skip i c, _, done, known, X, t, h, K =>
    match ops[i]? with
    | some o => whenP (isReady done (i, o) && isFalse (guardOf known o.guard)) <| putK t o.dst .any fun t => regC ops l c [] (i :: done) (deadK i o.dst known) X t h K
    | none => (fun _ : Nat => False) tall79
  | .load i c, _, done, known, X, t, h, K =>
    match ops[i]? with
    | some o =>
      match o.op with
      | .load T a => whenP (isReady done (i, o) && isTrue (guardOf known o.guard)) <| whenT P T <| ldP (szOf P T) (aggT P T) (evT t a) h fun v => putK t o.dst v fun t' => regC ops l c [] (i :: done) known ((i, szOf P T, aggT P T, evT t a, v) :: X) t' h K
      | _ => (fun _ : Nat => False) tall79
    | none => (fun _ : Nat => False) tall79
  | .split j a b, _, done, known, X, t, h, K =>
    match dstOf ops j with
    | some d => whenP (memN j done) <| iteP (evT t (.tmp d)) (regC ops l a [] done ((j, some true) :: known) X ((d, .bool true) :: t) h K) (regC ops l b [] done ((j, some false) :: known) X ((d, .bool false) :: t) h K)
    | none => (fun _ : Nat => False) tall79
  | .known j b c, _, done, known, X, t, h, K =>
    match dstOf ops j with
    | some d => whenP (memN j done && isB b (evT t (.tmp d))) <| regC ops l c [] done ((j, some b) :: known) X t h K
    | none => (fun _ : Nat => False) tall79
  | .alt i c r, seen, done, known, X, t, h, K =>
    match ops[i]? with
    | some o => whenP (isReady done (i, o) && isTrue (guardOf known o.guard)) <|
      match r with
      | .stop => whenP (subN (readies done l) (i :: seen)) <| opP P S t o h fun v h => heldP (keepH ops i X) h <| putK t o.dst v fun t => regC ops l c [] (i :: done) known (keepH ops i X) t h K
      | r => (opP P S t o h fun v h => heldP (keepH ops i X) h <| putK t o.dst v fun t => regC ops l c [] (i :: done) known (keepH ops i X) t h K) ∧ regC ops l r (i :: seen) done known X t h K
    | none => (fun _ : Nat => False) tall79
def edgeTo (o : Oper) (j : Nat) : Bool := o.after.toList.any fun e => Region.binds .any e && Nat.beq e.on j
def looks (ops : Array Oper) (o : Oper) : List Nat := o.looksAt ops
def apartL (ops : Array Oper) (x y : Oper) : Bool :=
  (match x.dst with | some d => !memN d (looks ops y) && (match y.dst with | some e => !Nat.beq e d | none => true) | none => true) &&
  (match y.dst with | some d => !memN d (looks ops x) | none => true)
def drawOk (ops : Array Oper) (l : List (Nat × Oper)) : Bool :=
  l.all fun x => (match x.2.op with | .select .. => false | _ => true) && l.all fun y => Nat.beq x.1 y.1 || (edgeTo x.2 y.1 || edgeTo y.2 x.1 || apartL ops x.2 y.2) && (match x.2.dst, y.2.dst with | some d, some e => !Nat.beq d e | _, _ => true)
def regD (ops : Array Oper) (c : Cert) (t : Env) (h : AHeap A) (K : Env → AHeap A → Prop) : Prop :=
  whenP (drawOk ops (numb 0 ops.toList)) <| regC P S ops (numb 0 ops.toList) c [] [] [] [] t h K

inductive Ex where
  | normal
  | exit (id : Nat)
  | ret

/-- What is known of code ahead: at a join or a loop, which of the slots that it writes are read behind it. -/
inductive Ann where
  | leaf
  | draw (j : Option (List Nat)) (c : Cert)
  | two (j : Option (List Nat)) (a b : Ann)
  | one (ls : List Nat) (a : Ann)
def Ann.fst : Ann → Ann | .two _ a _ => a | _ => .leaf
def Ann.snd : Ann → Ann | .two _ _ b => b | _ => .leaf
def Ann.in : Ann → Ann | .one _ a => a | _ => .leaf

def writes : Code → List Nat
  | .region _ ops _ => dsts ops.toList
  | .seq a b => writes a ++ writes b
  | .cond _ a b => writes a ++ writes b
  | .block _ c => writes c
  | .loop c => writes c
  | _ => []
def proj (t : Env) : List Nat → List AVal
  | [] => []
  | s :: r => getE t s :: proj t r
def injK (x : List AVal) (i : Nat) : Env → List Nat → (Env → Prop) → Prop
  | t, [], K => (fun _ : Nat => K t) tall79
  | t, s :: r, K => injK x (i + 1) ((s, x.getD i .any) :: t) r K
def remakeK (t : Env) (ws ls : List Nat) (x : List AVal) (K : Env → Prop) : Prop := forgetK t ws fun t => injK x 0 t ls K

def wpg : Code → Ann → Env → AHeap A → (Ex → Env → AHeap A → Prop) → Prop
  | .skip, _, t, h, Q => (fun _ : Nat => Q .normal t h) tall79
  | .ret, _, t, h, Q => Q .ret t h
  | .exit id, _, t, h, Q => Q (.exit id) t h
  | .region _ ops draw, n, t, h, Q =>
    match draw with
    | true =>
      match n with
      | .draw (some ls) c => joinP G h.length (fun k => regD P S ops c t h fun t' h' => k (proj t' ls) h') (fun x h => remakeK t (dsts ops.toList) ls x fun t => Q .normal t h)
      | .draw none c => regD P S ops c t h (Q .normal)
      | _ => (fun _ : Nat => False) tall79
    | false => regG P S ops (ops.size + 1) [] ops.toList t h (Q .normal)
  | .seq a b, n, t, h, Q =>
    match n with
    | .two (some ls) na nb =>
      joinP G h.length (fun k => wpg a na t h fun | .normal, t', h' => k (proj t' ls) h' | e, t', h' => Q e t' h') (fun x h => remakeK t (writes a) ls x fun t => wpg b nb t h Q)
    | n => wpg a n.fst t h fun | .normal, t', h' => wpg b n.snd t' h' Q | e, t', h' => Q e t' h'
  | .cond c a b, n, t, h, Q => iteP (evT t c) (wpg a n.fst t h Q) (wpg b n.snd t h Q)
  | .block id c, n, t, h, Q => wpg c n.in t h fun | .exit i, t', h' => iteT (Nat.beq i id) (Q .normal t' h') (Q (.exit i) t' h') | e, t', h' => Q e t' h'
  | .loop c, n, t, h, Q =>
    match n with
    | .one ls na =>
      loopP G (fun x h k => remakeK t (writes c) ls x fun t => wpg c na t h fun | .normal, t', h' => k (proj t' ls) h' | e, t', h' => Q e t' h') (proj t ls) h
    | _ => False
  | _, _, _, _, _ => False

def retP : List ResultVar → Env → List AVal → AHeap A → (AVal → AHeap A → Prop) → Prop
  | [], _, vs, h, K => (fun _ : Nat => K (match vs with | [v] => v | vs => .tup vs) h) tall79
  | .tmp a :: r, t, vs, h, K => retP r t (vs ++ [getE t a]) h K
  | .cell a ty :: r, t, vs, h, K => whenT P ty <| ldP (szOf P ty) (aggT P ty) (getE t a) h fun v => retP r t (vs ++ [v]) h K

def argsK : Nat → List AVal → Env → (Env → Prop) → Prop
  | _, [], t, K => (fun _ : Nat => K t) tall79
  | i, v :: r, t, K => argsK (i + 1) r ((i, v) :: t) K
def funP (fn : Func) (n : Ann) (xs : List AVal) (h : AHeap A) (K : AVal → AHeap A → Prop) : Prop :=
  match fn.body with
  | some c => whenP ((writes c).all fun d => Nat.blt d fn.ntmps) <| whenP (Nat.ble xs.length fn.ntmps) <| argsK 0 xs [] fun t => wpg P S G c n t h fun | .exit _, _, _ => False | _, t, h => retP P fn.results.toList t [] h K
  | none => (fun _ : Nat => False) tall79
end Go.AI
namespace Go.AI
variable {A : Type}

/-- Where an abstract block lies: the real block, the cell at which it begins, and how many elements its array has room for behind it. -/
structure Loc where
  blk : Nat
  base : Nat
  spare : Nat
  deriving Inhabited
abbrev Fz := Nat → Option (Array Value)
/-- Where abstract blocks lie; which real blocks hold what is never written again. -/
structure Pl where
  loc : Nat → Loc
  Z : Fz
  deriving Inhabited
instance : CoeFun Pl fun _ => Nat → Loc := ⟨Pl.loc⟩

mutual
def conc (ρ : Pl) : AVal → Value
  | .any => undef
  | .bool b => .bool b
  | .int k n => .int k n
  | .str s => .string ⟨s.toArray⟩
  | .nilp => .pointer none
  | .ptr b o => .pointer (some ⟨(ρ b).blk, (ρ b).base + o, none⟩)
  | .nils => .slice none 0 0
  | .odd a => .slice (some a) 0 0
  | .raw v => v
  | .sl b o len cap ex => .slice (some ⟨(ρ b).blk, (ρ b).base + o, none⟩) len (if ex = true then cap else cap + (ρ b).spare)
  | .empt b o sh => .slice (some ⟨(ρ b).blk, (ρ b).base + (if (ρ b).spare = 0 then o else o + sh), none⟩) 0 (ρ b).spare
  | .lst b o len cap _ => .slice (some ⟨b, o, none⟩) len cap
  | .fp b o _ => .pointer (some ⟨b, o, none⟩)
  | .nilm => .map none
  | .map b => .map (some (ρ b).blk)
  | .nilf => .nilFunc
  | .fn f a c => .func f (concs ρ a).toArray (concs ρ c).toArray
  | .nili => .nilIface
  | .iface t v => .iface t (conc ρ v)
  | .agg cs => .agg (concs ρ cs).toArray
  | .tup vs => .tuple (concs ρ vs).toArray
def concs (ρ : Pl) : List AVal → List Value
  | [] => []
  | v :: r => conc ρ v :: concs ρ r
end

def pl0 : Pl := ⟨fun _ => default, fun _ => none⟩
/-- Cells that are never written again. -/
def fzAt (Z : Fz) (b o : Nat) (cs : List AVal) : Prop := ∃ c, Z b = some c ∧ ∀ (k : Nat) (x : AVal), cs[k]? = some x → c[o + k]? = some (conc pl0 x)
mutual
/-- What a value names is there: blocks below n; what is never written again is as it tells. -/
def below (Z : Fz) (n : Nat) : AVal → Prop
  | .ptr b _ => b < n
  | .sl b _ _ _ _ => b < n
  | .empt b _ _ => b < n
  | .map b => b < n
  | .fn _ a c => belows Z n a ∧ belows Z n c
  | .iface _ v => below Z n v
  | .agg cs => belows Z n cs
  | .tup vs => belows Z n vs
  | .lst b o _ _ cs => fzAt Z b o cs ∧ belows Z 0 cs
  | .fp b o cs => fzAt Z b o cs ∧ belows Z 0 cs
  | _ => True
def belows (Z : Fz) (n : Nat) : List AVal → Prop
  | [] => True
  | v :: r => below Z n v ∧ belows Z n r
end

theorem concs_map (ρ : Pl) : ∀ l, concs ρ l = l.map (conc ρ)
  | [] => rfl
  | v :: r => by rw [concs, concs_map ρ r]; rfl
theorem concs_get (ρ : Pl) (l : List AVal) (i : Nat) : (concs ρ l)[i]? = (l[i]?).map (conc ρ) := by rw [concs_map]; simp
theorem concs_length (ρ : Pl) (l : List AVal) : (concs ρ l).length = l.length := by rw [concs_map]; simp
theorem concs_append (ρ : Pl) (a b : List AVal) : concs ρ (a ++ b) = concs ρ a ++ concs ρ b := by simp [concs_map]
theorem concs_take (ρ : Pl) (a : List AVal) (n : Nat) : concs ρ (a.take n) = (concs ρ a).take n := by simp [concs_map, List.map_take]
theorem concs_drop (ρ : Pl) (a : List AVal) (n : Nat) : concs ρ (a.drop n) = (concs ρ a).drop n := by simp [concs_map, List.map_drop]
theorem belows_iff (Z : Fz) (n : Nat) : ∀ l, belows Z n l ↔ ∀ v ∈ l, below Z n v
  | [] => by simp [belows]
  | v :: r => by simp [belows, belows_iff Z n r]

mutual
theorem conc_congr {ρ ρ' : Pl} {Z : Fz} {n : Nat} (h : ∀ b, b < n → ρ b = ρ' b) : ∀ (v : AVal), below Z n v → conc ρ v = conc ρ' v
  | .any, _ | .bool _, _ | .int _ _, _ | .str _, _ | .nilp, _ | .nils, _ | .odd _, _ | .raw _, _ | .nilm, _ | .nilf, _ | .nili, _ | .lst _ _ _ _ _, _ | .fp _ _ _, _ => by simp [conc]
  | .ptr b o, hv | .sl b o _ _ _, hv | .empt b o _, hv | .map b, hv => by simp only [below] at hv; simp [conc, h b hv]
  | .fn f a c, hv => by simp only [below] at hv; simp [conc, concs_congr h a hv.1, concs_congr h c hv.2]
  | .iface t v, hv => by simp only [below] at hv; simp [conc, conc_congr h v hv]
  | .agg cs, hv => by simp only [below] at hv; simp [conc, concs_congr h cs hv]
  | .tup cs, hv => by simp only [below] at hv; simp [conc, concs_congr h cs hv]
theorem concs_congr {ρ ρ' : Pl} {Z : Fz} {n : Nat} (h : ∀ b, b < n → ρ b = ρ' b) : ∀ (l : List AVal), belows Z n l → concs ρ l = concs ρ' l
  | [], _ => rfl
  | v :: r, hl => by simp only [belows] at hl; simp [concs, conc_congr h v hl.1, concs_congr h r hl.2]
end
/-- More is never written again. -/
def Fz.le (Z Z' : Fz) : Prop := ∀ b c, Z b = some c → Z' b = some c
theorem Fz.le_refl (Z : Fz) : Z.le Z := fun _ _ h => h
theorem Fz.le_trans {Z Z' Z'' : Fz} (h : Z.le Z') (h' : Z'.le Z'') : Z.le Z'' := fun b c e => h' b c (h b c e)
theorem fzAt.mono {Z Z' : Fz} (hz : Z.le Z') {b o : Nat} {cs : List AVal} (h : fzAt Z b o cs) : fzAt Z' b o cs := by
  obtain ⟨c, h1, h2⟩ := h; exact ⟨c, hz _ _ h1, h2⟩
mutual
theorem below_mono' {Z Z' : Fz} {n m : Nat} (hz : Z.le Z') (h : n ≤ m) : ∀ (v : AVal), below Z n v → below Z' m v
  | .any, _ | .bool _, _ | .int _ _, _ | .str _, _ | .nilp, _ | .nils, _ | .odd _, _ | .raw _, _ | .nilm, _ | .nilf, _ | .nili, _ => by simp [below]
  | .ptr b o, hv | .sl b o _ _ _, hv | .empt b o _, hv | .map b, hv => by simp only [below] at hv ⊢; omega
  | .fn f a c, hv => by simp only [below] at hv ⊢; exact ⟨belows_mono' hz h a hv.1, belows_mono' hz h c hv.2⟩
  | .iface t v, hv => by simp only [below] at hv ⊢; exact below_mono' hz h v hv
  | .agg cs, hv => by simp only [below] at hv ⊢; exact belows_mono' hz h cs hv
  | .tup cs, hv => by simp only [below] at hv ⊢; exact belows_mono' hz h cs hv
  | .lst b o _ _ cs, hv => by simp only [below] at hv ⊢; exact ⟨hv.1.mono hz, belows_mono' hz (Nat.le_refl _) cs hv.2⟩
  | .fp b o cs, hv => by simp only [below] at hv ⊢; exact ⟨hv.1.mono hz, belows_mono' hz (Nat.le_refl _) cs hv.2⟩
theorem belows_mono' {Z Z' : Fz} {n m : Nat} (hz : Z.le Z') (h : n ≤ m) : ∀ (l : List AVal), belows Z n l → belows Z' m l
  | [], _ => trivial
  | v :: r, hl => by simp only [belows] at hl ⊢; exact ⟨below_mono' hz h v hl.1, belows_mono' hz h r hl.2⟩
end
theorem below_mono {Z : Fz} {n m : Nat} (h : n ≤ m) (v : AVal) (hv : below Z n v) : below Z m v := below_mono' (Fz.le_refl Z) h v hv
theorem belows_mono {Z : Fz} {n m : Nat} (h : n ≤ m) (l : List AVal) (hl : belows Z n l) : belows Z m l := belows_mono' (Fz.le_refl Z) h l hl
/-- What is never written again hangs on no placement. -/
theorem conc_pl0 {ρ : Pl} {Z : Fz} {v : AVal} (h : below Z 0 v) : conc pl0 v = conc ρ v := conc_congr (fun _ hb => absurd hb (Nat.not_lt_zero _)) v h
theorem fzAt.at {ρ : Pl} {Z : Fz} {b o k : Nat} {cs : List AVal} {x : AVal} (h : fzAt Z b o cs) (hb : belows Z 0 cs) (hx : cs[k]? = some x) : ∃ c, Z b = some c ∧ c[o + k]? = some (conc ρ x) := by
  obtain ⟨c, h1, h2⟩ := h
  exact ⟨c, h1, by rw [h2 k x hx, conc_pl0 (ρ := ρ) ((belows_iff Z 0 cs).1 hb x (List.mem_of_getElem? hx))]⟩
theorem fzAt.drop {Z : Fz} {b o : Nat} {cs : List AVal} (h : fzAt Z b o cs) (i : Nat) : fzAt Z b (o + i) (cs.drop i) := by
  obtain ⟨c, h1, h2⟩ := h
  refine ⟨c, h1, fun k x hx => ?_⟩
  rw [List.getElem?_drop] at hx
  rw [Nat.add_assoc]; exact h2 _ x hx
theorem fzAt.take {Z : Fz} {b o : Nat} {cs : List AVal} (h : fzAt Z b o cs) (i : Nat) : fzAt Z b o (cs.take i) := by
  obtain ⟨c, h1, h2⟩ := h
  refine ⟨c, h1, fun k x hx => ?_⟩
  rw [List.getElem?_take] at hx
  split at hx
  · exact h2 _ x hx
  · simp at hx

/-- A real value fits an abstract one. -/
def VR1 (ρ : Pl) (a : AVal) (v : Value) : Prop := a = .any ∨ v = conc ρ a
inductive VR (ρ : Pl) : AVal → Value → Prop
  | any' (v : Value) : VR ρ .any v
  | same (a : AVal) : VR ρ a (conc ρ a)
  | tup (vs : List AVal) (l : List Value) (hl : l.length = vs.length) (f : ∀ (i : Nat) (x : AVal) (y : Value), vs[i]? = some x → l[i]? = some y → VR ρ x y) : VR ρ (.tup vs) (.tuple l.toArray)
theorem VR.of_eq (ρ : Pl) (a : AVal) : VR ρ a (conc ρ a) := .same a
theorem VR.of_one {ρ : Pl} {a : AVal} {v : Value} (h : VR1 ρ a v) : VR ρ a v := by
  rcases h with rfl | rfl
  · exact .any' v
  · exact .same a
theorem VR.any (ρ : Pl) (v : Value) : VR ρ .any v := .any' v
/-- Where the abstract value is neither 'any' nor a tuple, the real one is told. -/
theorem VR.eq {ρ : Pl} {a : AVal} {v : Value} (h : VR ρ a v) (ha : a ≠ .any) (ht : ∀ vs, a ≠ .tup vs) : v = conc ρ a := by
  cases h with
  | any' => exact absurd rfl ha
  | same => rfl
  | tup vs => exact absurd rfl (ht vs)
theorem VR.congr {ρ ρ' : Pl} {Z : Fz} {n : Nat} (h : ∀ b, b < n → ρ b = ρ' b) {a : AVal} {v : Value} (hb : Go.AI.below Z n a) (hv : VR ρ a v) : VR ρ' a v := by
  induction hv with
  | any' v => exact .any' v
  | same a => rw [conc_congr h a hb]; exact .same a
  | tup vs l hl f ih =>
    simp only [Go.AI.below] at hb
    exact .tup vs l hl fun i x y hx hy => ih i x y hx hy ((belows_iff Z n vs).1 hb x (List.mem_of_getElem? hx))
theorem VR.part {ρ : Pl} {vs : List AVal} {v : Value} (h : VR ρ (.tup vs) v) : ∃ l : List Value, v = .tuple l.toArray ∧ l.length = vs.length ∧ ∀ (i : Nat) (x : AVal), vs[i]? = some x → ∃ y, l[i]? = some y ∧ VR ρ x y := by
  generalize ha : AVal.tup vs = a at h
  cases h with
  | any' => simp at ha
  | same =>
    subst ha
    exact ⟨concs ρ vs, by simp [conc], concs_length ρ vs, fun i x hx => ⟨conc ρ x, by simp [concs_get, hx], .same x⟩⟩
  | tup vs' l hl f =>
    simp only [AVal.tup.injEq] at ha
    subst ha
    refine ⟨l, rfl, hl, fun i x hx => ?_⟩
    have hlt : i < l.length := by rw [hl]; exact (List.getElem?_eq_some_iff.1 hx).1
    exact ⟨l[i], by simp [hlt], f i x _ hx (by simp [hlt])⟩

def concEnt (ρ : Pl) (e : AEnt) : MapEntry := { key := conc ρ e.key, val := conc ρ e.val, born := e.born }

def AObj.below (Z : Fz) (n : Nat) : AObj A → Prop
  | .cells _ cs => belows Z n cs
  | .map es _ => ∀ e ∈ es, AI.below Z n e.key ∧ AI.below Z n e.val
  | _ => True

/-- How an object of a data type lies in memory: a row of cells, and blocks of its own behind it, which the cells name by their places. -/
inductive GC where
  | g (v : AVal)
  | sl (i o len cap : Nat) (ex : Bool)
  | mp (i : Nat)
structure Grp (A : Type) where
  e : TypeId
  cs : List GC
  subs : List (AObj A)

mutual
/-- Places are told anew. -/
def AVal.ren (τ : Nat → Nat) : AVal → AVal
  | .ptr b o => .ptr (τ b) o
  | .sl b o len cap ex => .sl (τ b) o len cap ex
  | .empt b o sh => .empt (τ b) o sh
  | .map b => .map (τ b)
  | .fn f a c => .fn f (rens τ a) (rens τ c)
  | .iface t v => .iface t (v.ren τ)
  | .agg cs => .agg (rens τ cs)
  | .tup vs => .tup (rens τ vs)
  | .any => .any
  | .bool b => .bool b
  | .int k n => .int k n
  | .str s => .str s
  | .nilp => .nilp
  | .nils => .nils
  | .odd a => .odd a
  | .raw v => .raw v
  | .lst b o l c cs => .lst b o l c cs
  | .fp b o cs => .fp b o cs
  | .nilm => .nilm
  | .nilf => .nilf
  | .nili => .nili
def rens (τ : Nat → Nat) : List AVal → List AVal
  | [] => []
  | v :: r => v.ren τ :: rens τ r
end
def AEnt.ren (τ : Nat → Nat) (e : AEnt) : AEnt := { e with key := e.key.ren τ, val := e.val.ren τ }
def GC.ren (τ : Nat → Nat) : GC → GC
  | .g v => .g (v.ren τ)
  | c => c
/-- Data types of the program: how they lie in memory; their places told anew. -/
structure Adts (A : Type) where
  lay : A → Grp A → Prop
  ren : (Nat → Nat) → A → A
def AObj.ren (R : Adts A) (τ : Nat → Nat) : AObj A → AObj A
  | .dead => .dead
  | .cells e cs => .cells e (rens τ cs)
  | .map es ck => .map (es.map (AEnt.ren τ)) ck
  | .adt a => .adt (R.ren τ a)
def Grp.ren (R : Adts A) (τ : Nat → Nat) (g : Grp A) : Grp A := { g with cs := g.cs.map (GC.ren τ), subs := g.subs.map (AObj.ren R τ) }
def Adts.Ok (R : Adts A) : Prop := ∀ a τ g', R.lay (R.ren τ a) g' ↔ ∃ g, R.lay a g ∧ g' = g.ren R τ

variable (P : Program) (R : Adts A)

def unfrozen (fz : Nat × Nat) (n : Nat) : Prop := n ≤ fz.1 ∨ fz.2 ≤ fz.1
/-- Cells that may be written; but for bytes no mark lies behind them. -/
def unfrozenE (e : TypeId) (fz : Nat × Nat) (n : Nat) : Prop := unfrozen fz n ∧ (fz.2 ≤ fz.1 ∨ P.underlying e = some (.int .u8))
def cellsAre (ρ : Pl) (base : Nat) (c : Array Value) (cs : List AVal) : Prop := ∀ k v, cs[k]? = some v → c[base + k]? = some (conc ρ v)

/-- An object that is no data type's. -/
def BasRep (ρ : Pl) (l : Loc) (ow : List Nat) (w : World) : AObj A → Prop
  | .dead => ow = []
  | .cells e cs => ow = [l.blk] ∧ ∃ c fz, w.heap[l.blk]? = some (.cells c e fz) ∧ l.base + cs.length + l.spare * P.cellsOf e ≤ c.size ∧ cellsAre ρ l.base c cs ∧ unfrozenE P e fz c.size
  | .map es clock => ow = [l.blk] ∧ w.heap[l.blk]? = some (.map (es.map (concEnt ρ)).toArray clock)
  | .adt _ => False
def gconc (ρ : Pl) (ρs : Nat → Loc) : GC → Value
  | .g v => conc ρ v
  | .sl i o len cap ex => .slice (some ⟨(ρs i).blk, (ρs i).base + o, none⟩) len (if ex = true then cap else cap + (ρs i).spare)
  | .mp i => .map (some (ρs i).blk)
def GC.below (Z : Fz) (n : Nat) : GC → Prop
  | .g v => AI.below Z n v
  | _ => True
/-- An object of a data type. -/
def GrpRep (ρ : Pl) (n : Nat) (l : Loc) (ow : List Nat) (w : World) (g : Grp A) : Prop :=
  ∃ ρs : Nat → Loc, ow = l.blk :: (List.range g.subs.length).map (fun i => (ρs i).blk) ∧ ow.Nodup ∧
    (∃ c fz, w.heap[l.blk]? = some (.cells c g.e fz) ∧ l.base + g.cs.length + l.spare * P.cellsOf g.e ≤ c.size ∧ (∀ (k : Nat) (x : GC), g.cs[k]? = some x → c[l.base + k]? = some (gconc ρ ρs x)) ∧ unfrozenE P g.e fz c.size) ∧
    (∀ x ∈ g.cs, x.below ρ.Z n) ∧ (∀ i o len cap ex, GC.sl i o len cap ex ∈ g.cs → i < g.subs.length) ∧ (∀ i, GC.mp i ∈ g.cs → i < g.subs.length) ∧
    ∀ (i : Nat) (s : AObj A), g.subs[i]? = some s → BasRep P ρ (ρs i) [(ρs i).blk] w s ∧ s.below ρ.Z n
def ObjRep (ρ : Pl) (n : Nat) (l : Loc) (ow : List Nat) (w : World) : AObj A → Prop
  | .adt a => ∃ g, R.lay a g ∧ GrpRep P ρ n l ow w g
  | o => BasRep P ρ l ow w o

structure Rep (ρ : Pl) (ow : Nat → List Nat) (h : AHeap A) (w : World) : Prop where
  obj : ∀ (i : Nat) (o : AObj A), h[i]? = some o → ObjRep P R ρ h.length (ρ i) (ow i) w o
  out : ∀ i, h.length ≤ i → ow i = []
  disj : ∀ i j b, b ∈ ow i → b ∈ ow j → i = j
  fz : ∀ b c, ρ.Z b = some c → (∃ e z, w.heap[b]? = some (.cells c e z)) ∧ ∀ i, b ∉ ow i
  lt : ∀ i b, b ∈ ow i → b < w.heap.size
  wf : ∀ (i : Nat) (o : AObj A), h[i]? = some o → o.below ρ.Z h.length

/-- What a step may turn. -/
structure Fr (ρ : Pl) (ow : Nat → List Nat) (h : AHeap A) (w : World) (ρ' : Pl) (ow' : Nat → List Nat) (h' : AHeap A) (w' : World) : Prop where
  os : w'.os = w.os
  tape : w'.tape = w.tape
  output : w'.output = w.output
  size : w.heap.size ≤ w'.heap.size
  block : ∀ b, b < w.heap.size → (∀ i, b ∉ ow i) → w'.heap[b]? = w.heap[b]?
  own : ∀ i b, b ∈ ow' i → (∃ j, b ∈ ow j) ∨ w.heap.size ≤ b
  agree : ∀ i, i < h.length → ρ i = ρ' i
  len : h.length ≤ h'.length
  le : ρ.Z.le ρ'.Z
  fz : ∀ b c, ρ'.Z b = some c → ρ.Z b = some c ∨ (∃ j, b ∈ ow j) ∨ w.heap.size ≤ b

theorem Fr.refl (ρ : Pl) (ow : Nat → List Nat) (h : AHeap A) (w : World) : Fr ρ ow h w ρ ow h w :=
  ⟨rfl, rfl, rfl, Nat.le_refl _, fun _ _ _ => rfl, fun i _ hb => .inl ⟨i, hb⟩, fun _ _ => rfl, Nat.le_refl _, Fz.le_refl _, fun _ _ h => .inl h⟩
theorem Fr.trans {ρ ρ₁ ρ₂ : Pl} {ow ow₁ ow₂ : Nat → List Nat} {h h₁ h₂ : AHeap A} {w w₁ w₂ : World}
    (a : Fr ρ ow h w ρ₁ ow₁ h₁ w₁) (b : Fr ρ₁ ow₁ h₁ w₁ ρ₂ ow₂ h₂ w₂) : Fr ρ ow h w ρ₂ ow₂ h₂ w₂ where
  os := b.os.trans a.os
  tape := b.tape.trans a.tape
  output := b.output.trans a.output
  size := Nat.le_trans a.size b.size
  block x hx hn := by
    rw [b.block x (Nat.lt_of_lt_of_le hx a.size) fun i hi => ?_, a.block x hx hn]
    rcases a.own i x hi with ⟨j, hj⟩ | hge
    · exact hn j hj
    · omega
  own i x hx := by
    rcases b.own i x hx with ⟨j, hj⟩ | hge
    · exact a.own j x hj
    · exact .inr (Nat.le_trans a.size hge)
  agree i hi := (a.agree i hi).trans (b.agree i (Nat.lt_of_lt_of_le hi a.len))
  len := Nat.le_trans a.len b.len
  le := Fz.le_trans a.le b.le
  fz x c hx := by
    rcases b.fz x c hx with h1 | ⟨j, hj⟩ | hge
    · exact a.fz x c h1
    · rcases a.own j x hj with h2 | h2
      · exact .inr (.inl h2)
      · exact .inr (.inr h2)
    · exact .inr (.inr (Nat.le_trans a.size hge))

variable {P R}
theorem cellsAre.congr {ρ ρ' : Pl} {Z : Fz} {n base : Nat} {c : Array Value} {cs : List AVal} (h : ∀ b, b < n → ρ b = ρ' b) (hb : belows Z n cs) (hc : cellsAre ρ base c cs) : cellsAre ρ' base c cs := by
  intro k v hv
  rw [hc k v hv, conc_congr h v ((belows_iff Z n cs).1 hb v (List.mem_of_getElem? hv))]
theorem BasRep.move {ρ ρ' : Pl} {Z : Fz} {n : Nat} {l : Loc} {ow : List Nat} {w w' : World} {o : AObj A} (h : ∀ b, b < n → ρ b = ρ' b) (hb : o.below Z n)
    (hw : ∀ b ∈ ow, w'.heap[b]? = w.heap[b]?) (ho : BasRep P ρ l ow w o) : BasRep P ρ' l ow w' o := by
  cases o with
  | dead => exact ho
  | cells e cs =>
    obtain ⟨rfl, c, fz, h1, h2, h3, h4⟩ := ho
    exact ⟨rfl, c, fz, by rw [hw _ (by simp), h1], h2, h3.congr h hb, h4⟩
  | map es ck =>
    obtain ⟨rfl, h1⟩ := ho
    refine ⟨rfl, ?_⟩
    rw [hw _ (by simp), h1]
    congr 3
    apply List.map_congr_left
    intro e he
    simp only [AObj.below] at hb
    simp [concEnt, conc_congr h _ (hb e he).1, conc_congr h _ (hb e he).2]
  | adt a => exact ho
theorem AObj.below_mono' {Z Z' : Fz} {n m : Nat} (hz : Z.le Z') (h : n ≤ m) {o : AObj A} (ho : o.below Z n) : o.below Z' m := by
  cases o with
  | cells e cs => exact belows_mono' hz h cs ho
  | map es ck => exact fun e he => ⟨AI.below_mono' hz h _ (ho e he).1, AI.below_mono' hz h _ (ho e he).2⟩
  | _ => trivial
theorem AObj.below_mono {Z : Fz} {n m : Nat} (h : n ≤ m) {o : AObj A} (ho : o.below Z n) : o.below Z m := AObj.below_mono' (Fz.le_refl Z) h ho
theorem GrpRep.move {ρ ρ' : Pl} {n m : Nat} {l : Loc} {ow : List Nat} {w w' : World} {g : Grp A} (h : ∀ b, b < n → ρ b = ρ' b) (hz : ρ.Z.le ρ'.Z) (hm : n ≤ m)
    (hw : ∀ b ∈ ow, w'.heap[b]? = w.heap[b]?) (ho : GrpRep P ρ n l ow w g) : GrpRep P ρ' m l ow w' g := by
  obtain ⟨ρs, h1, hnd, ⟨c, fz, h2, h3, h4, h5⟩, h6, h7, h8, h9⟩ := ho
  refine ⟨ρs, h1, hnd, ⟨c, fz, by rw [hw _ (by rw [h1]; simp), h2], h3, fun k x hx => ?_, h5⟩, fun x hx => ?_, h7, h8, fun i s hs => ?_⟩
  · rw [h4 k x hx]
    cases x with
    | g v => exact congrArg some (conc_congr h v (h6 _ (List.mem_of_getElem? hx)))
    | _ => rfl
  · have := h6 x hx
    cases x with
    | g v => exact AI.below_mono' hz hm v this
    | _ => trivial
  · have hi := (List.getElem?_eq_some_iff.1 hs).1
    refine ⟨(h9 i s hs).1.move h (h9 i s hs).2 fun b hb => hw b ?_, AObj.below_mono' hz hm (h9 i s hs).2⟩
    simp only [List.mem_singleton] at hb
    subst hb
    rw [h1]
    exact List.mem_cons_of_mem _ (List.mem_map.2 ⟨i, by simpa using hi, rfl⟩)
/-- Objects stay what they are under another placement that agrees, in a world that has their blocks. -/
theorem ObjRep.move {ρ ρ' : Pl} {n m : Nat} {l : Loc} {ow : List Nat} {w w' : World} {o : AObj A} (h : ∀ b, b < n → ρ b = ρ' b) (hz : ρ.Z.le ρ'.Z) (hm : n ≤ m) (hb : o.below ρ.Z n)
    (hw : ∀ b ∈ ow, w'.heap[b]? = w.heap[b]?) (ho : ObjRep P R ρ n l ow w o) : ObjRep P R ρ' m l ow w' o := by
  cases o with
  | adt a => obtain ⟨g, h1, h2⟩ := ho; exact ⟨g, h1, h2.move h hz hm hw⟩
  | dead => exact ho
  | cells e cs => exact BasRep.move (P := P) (o := .cells e cs) h hb hw ho
  | map es ck => exact BasRep.move (P := P) (o := .map es ck) h hb hw ho

/-- A world that has the same owned and read blocks. -/
theorem Rep.world {ρ : Pl} {ow : Nat → List Nat} {h : AHeap A} {w w' : World} (r : Rep P R ρ ow h w) (hs : w.heap.size ≤ w'.heap.size)
    (hw : ∀ b, b < w.heap.size → w'.heap[b]? = w.heap[b]?) : Rep P R ρ ow h w' where
  obj i o ho := (r.obj i o ho).move (fun _ _ => rfl) (Fz.le_refl _) (Nat.le_refl _) (r.wf i o ho) (fun b hb => hw b (r.lt i b hb))
  out := r.out
  disj := r.disj
  fz b c hb := by
    obtain ⟨⟨e, z, h1⟩, h2⟩ := r.fz b c hb
    exact ⟨⟨e, z, by rw [hw b (Array.getElem?_eq_some_iff.1 h1).1]; exact h1⟩, h2⟩
  lt i b hb := Nat.lt_of_lt_of_le (r.lt i b hb) hs
  wf := r.wf
end Go.AI
namespace Go.AI
variable {A : Type} {P : Program} {R : Adts A}

def upd {α : Type} (f : Nat → α) (i : Nat) (a : α) : Nat → α := fun j => if j = i then a else f j
theorem upd_same {α : Type} (f : Nat → α) (i : Nat) (a : α) : upd f i a i = a := by simp [upd]
theorem upd_ne {α : Type} (f : Nat → α) {i j : Nat} (a : α) (h : j ≠ i) : upd f i a j = f j := by simp [upd, h]

/-- Another block's place. -/
def updP (ρ : Pl) (i : Nat) (l : Loc) : Pl := ⟨upd ρ.loc i l, ρ.Z⟩
theorem updP_same (ρ : Pl) (i : Nat) (l : Loc) : updP ρ i l i = l := upd_same _ _ _
theorem updP_ne (ρ : Pl) {i j : Nat} (l : Loc) (h : j ≠ i) : updP ρ i l j = ρ j := upd_ne _ _ h
theorem updP_Z (ρ : Pl) (i : Nat) (l : Loc) : (updP ρ i l).Z = ρ.Z := rfl

/-- A new object behind all others. -/
theorem Rep.snoc {ρ : Pl} {ow : Nat → List Nat} {h : AHeap A} {w w' : World} (r : Rep P R ρ ow h w) (hs : w.heap.size ≤ w'.heap.size)
    (l : Loc) (bs : List Nat) (hw : ∀ b, b < w.heap.size → b ∉ bs → w'.heap[b]? = w.heap[b]?)
    (hbs : ∀ b ∈ bs, b < w'.heap.size ∧ (∀ j, b ∉ ow j) ∧ ρ.Z b = none)
    (o : AObj A) (hb : o.below ρ.Z (h.length + 1)) (ho : ObjRep P R (updP ρ h.length l) (h.length + 1) l bs w' o) :
    Rep P R (updP ρ h.length l) (upd ow h.length bs) (h ++ [o]) w' where
  obj i x hx := by
    simp only [List.length_append, List.length_singleton]
    by_cases hi : i = h.length
    · subst hi
      rw [List.getElem?_append_right (Nat.le_refl _)] at hx
      simp at hx
      subst hx
      rw [updP_same, upd_same]
      exact ho
    · have hlt : i < h.length := by
        rcases Nat.lt_or_ge i h.length with h1 | h1
        · exact h1
        · rw [List.getElem?_eq_none (by simp; omega)] at hx; simp at hx
      rw [List.getElem?_append_left hlt] at hx
      rw [updP_ne _ _ hi, upd_ne _ _ hi]
      exact (r.obj i x hx).move (fun b hb => (updP_ne _ _ (by omega)).symm) (Fz.le_refl _) (by omega) (r.wf i x hx) (fun b hb => hw b (r.lt i b hb) fun hm => (hbs b hm).2.1 i hb)
  out i hi := by
    have h1 : i ≠ h.length := by simp at hi; omega
    rw [upd_ne _ _ h1]
    exact r.out i (by simp at hi; omega)
  disj i j b hi hj := by
    by_cases h1 : i = h.length <;> by_cases h2 : j = h.length
    · omega
    · subst h1; rw [upd_same] at hi; rw [upd_ne _ _ h2] at hj; exact absurd hj ((hbs b hi).2.1 j)
    · subst h2; rw [upd_same] at hj; rw [upd_ne _ _ h1] at hi; exact absurd hi ((hbs b hj).2.1 i)
    · rw [upd_ne _ _ h1] at hi; rw [upd_ne _ _ h2] at hj; exact r.disj i j b hi hj
  fz b c hb := by
    rw [updP_Z] at hb
    obtain ⟨⟨e, z, h1⟩, h2⟩ := r.fz b c hb
    have hn : b ∉ bs := fun hm => by rw [(hbs b hm).2.2] at hb; cases hb
    refine ⟨⟨e, z, by rw [hw b (Array.getElem?_eq_some_iff.1 h1).1 hn]; exact h1⟩, fun i => ?_⟩
    by_cases hi : i = h.length
    · subst hi; rw [upd_same]; exact hn
    · rw [upd_ne _ _ hi]; exact h2 i
  lt i b hb := by
    by_cases h1 : i = h.length
    · subst h1; rw [upd_same] at hb; exact (hbs b hb).1
    · rw [upd_ne _ _ h1] at hb; exact Nat.lt_of_lt_of_le (r.lt i b hb) hs
  wf i x hx := by
    simp only [List.length_append, List.length_singleton]
    by_cases hi : i < h.length
    · rw [List.getElem?_append_left hi] at hx
      exact AObj.below_mono (by omega) (r.wf i x hx)
    · rw [List.getElem?_append_right (by omega)] at hx
      have : x = o := by
        cases hk : i - h.length with
        | zero => rw [hk] at hx; simpa using hx.symm
        | succ n => rw [hk] at hx; simp at hx
      rw [this]; exact hb

/-- An object is another one, over the same blocks. -/
theorem Rep.set {ρ : Pl} {ow : Nat → List Nat} {h : AHeap A} {w w' : World} (r : Rep P R ρ ow h w) {i : Nat} {o o' : AObj A} (hi : h[i]? = some o)
    (hs : w.heap.size ≤ w'.heap.size) (hw : ∀ b, b ∉ ow i → w'.heap[b]? = w.heap[b]?) (hb : o'.below ρ.Z h.length)
    (ho : ObjRep P R ρ h.length (ρ i) (ow i) w' o') : Rep P R ρ ow (h.set i o') w' where
  obj j x hx := by
    rw [List.length_set]
    have hlt : i < h.length := (List.getElem?_eq_some_iff.1 hi).1
    by_cases hj : i = j
    · subst hj
      rw [List.getElem?_set_self hlt] at hx
      simp at hx; subst hx; exact ho
    · rw [List.getElem?_set_ne hj] at hx
      exact (r.obj j x hx).move (fun _ _ => rfl) (Fz.le_refl _) (Nat.le_refl _) (r.wf j x hx) (fun b hb => hw b fun hm => hj (r.disj i j b hm hb))
  out j hj := r.out j (by simpa using hj)
  disj := r.disj
  fz b c hb := by
    obtain ⟨⟨e, z, h1⟩, h2⟩ := r.fz b c hb
    exact ⟨⟨e, z, by rw [hw b (h2 i)]; exact h1⟩, h2⟩
  lt j b hb := Nat.lt_of_lt_of_le (r.lt j b hb) hs
  wf j x hx := by
    rw [List.length_set]
    have hlt : i < h.length := (List.getElem?_eq_some_iff.1 hi).1
    by_cases hj : i = j
    · subst hj; rw [List.getElem?_set_self hlt] at hx; simp at hx; subst hx; exact hb
    · rw [List.getElem?_set_ne hj] at hx; exact r.wf j x hx

/-- An object is given up. -/
theorem Rep.kill {ρ : Pl} {ow : Nat → List Nat} {h : AHeap A} {w : World} (r : Rep P R ρ ow h w) (i : Nat) : Rep P R ρ (upd ow i []) (h.set i .dead) w where
  obj j x hx := by
    rw [List.length_set]
    by_cases hj : i = j
    · subst hj
      by_cases hlt : i < h.length
      · rw [List.getElem?_set_self hlt] at hx; simp at hx; subst hx; rw [upd_same]; rfl
      · rw [List.getElem?_eq_none (by simp; omega)] at hx; simp at hx
    · rw [List.getElem?_set_ne hj] at hx; rw [upd_ne _ _ (fun e => hj e.symm)]; exact r.obj j x hx
  out j hj := by
    by_cases h1 : j = i
    · subst h1; exact upd_same _ _ _
    · rw [upd_ne _ _ h1]; exact r.out j (by simpa using hj)
  disj a b x ha hb := by
    by_cases h1 : a = i
    · subst h1; rw [upd_same] at ha; simp at ha
    · by_cases h2 : b = i
      · subst h2; rw [upd_same] at hb; simp at hb
      · rw [upd_ne _ _ h1] at ha; rw [upd_ne _ _ h2] at hb; exact r.disj a b x ha hb
  fz b c hb := by
    obtain ⟨h1, h2⟩ := r.fz b c hb
    refine ⟨h1, fun j => ?_⟩
    by_cases hj : j = i
    · subst hj; rw [upd_same]; simp
    · rw [upd_ne _ _ hj]; exact h2 j
  lt j b hb := by
    by_cases h1 : j = i
    · subst h1; rw [upd_same] at hb; simp at hb
    · rw [upd_ne _ _ h1] at hb; exact r.lt j b hb
  wf j x hx := by
    rw [List.length_set]
    by_cases hj : i = j
    · subst hj
      by_cases hlt : i < h.length
      · rw [List.getElem?_set_self hlt] at hx; simp at hx; subst hx; trivial
      · rw [List.getElem?_eq_none (by simp; omega)] at hx; simp at hx
    · rw [List.getElem?_set_ne hj] at hx; exact r.wf j x hx
theorem Rep.zlt {ρ : Pl} {ow : Nat → List Nat} {h : AHeap A} {w : World} (r : Rep P R ρ ow h w) {b : Nat} {c : Array Value} (hb : ρ.Z b = some c) : b < w.heap.size := by
  obtain ⟨⟨e, z, h1⟩, _⟩ := r.fz b c hb
  exact (Array.getElem?_eq_some_iff.1 h1).1
theorem Rep.znew {ρ : Pl} {ow : Nat → List Nat} {h : AHeap A} {w : World} (r : Rep P R ρ ow h w) {b : Nat} (hb : w.heap.size ≤ b) : ρ.Z b = none := by
  cases hz : ρ.Z b with
  | none => rfl
  | some c => have := r.zlt hz; omega
theorem Rep.zown {ρ : Pl} {ow : Nat → List Nat} {h : AHeap A} {w : World} (r : Rep P R ρ ow h w) {b i : Nat} (hb : b ∈ ow i) : ρ.Z b = none := by
  cases hz : ρ.Z b with
  | none => rfl
  | some c => exact absurd hb ((r.fz b c hz).2 i)

/-! Worlds. -/
def put_ (w : World) (b : Nat) (o : Obj) : World := { w with heap := w.heap.setIfInBounds b o }
theorem put_get (w : World) (b : Nat) (o : Obj) (hb : b < w.heap.size) : (put_ w b o).heap[b]? = some o := by simp [put_, hb]
theorem put_get_ne (w : World) (b c : Nat) (o : Obj) (h : c ≠ b) : (put_ w b o).heap[c]? = w.heap[c]? := by
  simp [put_, Array.getElem?_setIfInBounds_ne (Ne.symm h)]
theorem put_size (w : World) (b : Nat) (o : Obj) : (put_ w b o).heap.size = w.heap.size := by simp [put_]
theorem put_put (w : World) (b : Nat) (o o' : Obj) : put_ (put_ w b o) b o' = put_ w b o' := by simp [put_]
theorem put_self (w : World) (b : Nat) (o : Obj) (h : w.heap[b]? = some o) : put_ w b o = w := by
  have hb := (Array.getElem?_eq_some_iff.1 h).1
  have hx := (Array.getElem?_eq_some_iff.1 h).2
  simp only [put_]
  have : w.heap.setIfInBounds b o = w.heap := by
    apply Array.ext_getElem?
    intro i
    by_cases hi : b = i
    · subst hi; rw [Array.getElem?_setIfInBounds_self_of_lt hb, h]
    · rw [Array.getElem?_setIfInBounds_ne hi]
  rw [this]

theorem modify_put (w : World) (b : Nat) (o : Obj) (f : Obj → Obj) (h : w.heap[b]? = some o) : { w with heap := w.heap.modify b f } = put_ w b (f o) := by
  have hb := (Array.getElem?_eq_some_iff.1 h).1
  have hx := (Array.getElem?_eq_some_iff.1 h).2
  simp only [put_]
  congr 1
  apply Array.ext_getElem?
  intro i
  rw [Array.getElem?_modify]
  by_cases hi : b = i
  · subst hi; rw [Array.getElem?_setIfInBounds_self_of_lt hb, h]; simp
  · rw [Array.getElem?_setIfInBounds_ne hi, if_neg hi]

/-- Cells of an array written over. -/
def overA (c : Array Value) (k : Nat) : List Value → Array Value
  | [] => c
  | v :: r => overA (c.setIfInBounds k v) (k + 1) r
theorem overA_size (c : Array Value) : ∀ (vs : List Value) (k : Nat), (overA c k vs).size = c.size := by
  intro vs
  induction vs generalizing c with
  | nil => intro k; rfl
  | cons v r ih => intro k; rw [overA, ih]; simp
theorem overA_get (vs : List Value) : ∀ (c : Array Value) (k i : Nat), k + vs.length ≤ c.size →
    (overA c k vs)[i]? = if k ≤ i ∧ i < k + vs.length then vs[i - k]? else c[i]? := by
  induction vs with
  | nil => intro c k i _; simp [overA]; omega
  | cons v r ih =>
    intro c k i hk
    simp only [List.length_cons] at hk
    rw [overA, ih _ _ _ (by simp; omega)]
    by_cases h1 : k + 1 ≤ i ∧ i < k + 1 + r.length
    · rw [if_pos h1, if_pos (by simp; omega)]
      have : i - k = (i - (k + 1)) + 1 := by omega
      rw [this]; rfl
    · rw [if_neg h1]
      by_cases h2 : k = i
      · subst h2
        rw [if_pos (by simp)]
        simp [Array.getElem?_setIfInBounds_self_of_lt (show k < c.size by omega)]
      · rw [if_neg (by simp; omega), Array.getElem?_setIfInBounds_ne h2]

theorem run_storeCells_put (P : Program) (g o : Nat) (t : TypeId) (fz : Nat × Nat) : ∀ (vs : List Value) (i : Nat) (cur : Array Value) (w : World),
    w.heap[g]? = some (.cells cur t fz) → unfrozen fz cur.size → o + i + vs.length ≤ cur.size → (∀ v ∈ vs, v.oneCell' = true) →
    (storeCells ⟨g, o, none⟩ vs i).run P w = .ok () (put_ w g (.cells (overA cur (o + i) vs) t fz))
  | [], i, cur, w, hg, _, _, _ => by rw [overA, put_self w g _ hg]; rfl
  | v :: r, i, cur, w, hg, hz, hl, h1 => by
    simp only [List.length_cons] at hl
    have hi : o + i < cur.size := by omega
    have hadd : (⟨g, o, none⟩ : Addr).add i = ⟨g, o + i, none⟩ := by unfold Addr.add; split <;> simp_all
    have hcell : w.cell? ⟨g, o + i, none⟩ = some cur[o + i] := by simp [World.cell?, hg, hi]
    have hfro : w.frozen? ⟨g, o + i, none⟩ = false := by
      simp only [World.frozen?, hg]
      rcases hz with h | h <;> simp <;> omega
    have hst : (store ((⟨g, o, none⟩ : Addr).add i) v).run P w = .ok () (put_ w g (.cells (cur.setIfInBounds (o + i) v) t fz)) := by
      rw [hadd, run_store P w _ v _ (h1 v (by simp)), hcell]
      simp only [hfro, Bool.false_eq_true, if_false]
      congr 1
      simp only [World.setCell]
      rw [modify_put w g _ _ hg]
      simp
    have hb := (Array.getElem?_eq_some_iff.1 hg).1
    have ih := run_storeCells_put P g o t fz r (i + 1) (cur.setIfInBounds (o + i) v) (put_ w g (.cells (cur.setIfInBounds (o + i) v) t fz)) (put_get _ _ _ hb)
      (by simpa [unfrozen] using hz) (by simp; omega) (fun x hx => h1 x (by simp [hx]))
    simp only [storeCells, Sem.run_bind, hst, Result.andThen_ok, ih, put_put, overA]
    rfl
end Go.AI
namespace Go.AI
variable {A : Type} (P : Program) (R : Adts A)

/-- Real arguments fit abstract ones. -/
def VRs (ρ : Pl) (as : List AVal) (vs : List Value) : Prop := vs.length = as.length ∧ ∀ (i : Nat) (a : AVal), as[i]? = some a → ∃ v, vs[i]? = some v ∧ VR ρ a v

/-- The call of f over any world that represents h comes back, and then K holds of what it answers and of the heap behind it. -/
def Tri (f : FuncId) (as : List AVal) (h : AHeap A) (K : AVal → AHeap A → Prop) : Prop :=
  ∀ ρ ow w vs, Rep P R ρ ow h w → VRs ρ as vs → belows ρ.Z h.length as → Calls P f vs.toArray w fun e w' =>
    ∃ v v' ρ' ow' h', e = .returned v' ∧ K v h' ∧ VR ρ' v v' ∧ below ρ'.Z h'.length v ∧ Rep P R ρ' ow' h' w' ∧ Fr ρ ow h w ρ' ow' h' w'

theorem Tri.mono {P R} {f : FuncId} {as : List AVal} {h : AHeap A} {K K' : AVal → AHeap A → Prop} (t : Tri P R f as h K) (hk : ∀ v h, K v h → K' v h) : Tri P R f as h K' :=
  fun ρ ow w vs r hv hb => (t ρ ow w vs r hv hb).mono fun e w' ⟨v, v', ρ', ow', h', he, k, rest⟩ => ⟨v, v', ρ', ow', h', he, hk _ _ k, rest⟩

def EnvR (ρ : Pl) (n : Nat) (t : Env) (a : Act) : Prop := ∀ s, VR ρ (getE t s) (a.tmps.getD s undef) ∧ below ρ.Z n (getE t s)

/-- What an operation does. -/
def OpOk (o : Oper) (a : Act) (ρ : Pl) (ow : Nat → List Nat) (h : AHeap A) (w : World) (K : AVal → AHeap A → Prop) : Prop :=
  ∀ (next : Act → World → Prop) (Q : Exit → Act → World → Prop),
    (∀ v v' ρ' ow' h' w', K v h' → VR ρ' v v' → below ρ'.Z h'.length v → Rep P R ρ' ow' h' w' → Fr ρ ow h w ρ' ow' h' w' → next (a.put o.dst v') w') → o.wp P a w next Q

/-- What an operation does that neither reads nor writes memory. -/
def OpPure (P : Program) (o : Oper) (a : Act) (ρ : Pl) (n : Nat) (K : AVal → Prop) : Prop :=
  ∃ v v', (∀ w, (execOp a.eval o).run P w = .ok (.value v') w) ∧ K v ∧ VR ρ v v' ∧ below ρ.Z n v
theorem OpPure.of {P : Program} {o : Oper} {a : Act} {ρ : Pl} {n : Nat} {K : AVal → Prop} {v : AVal} {v' : Value}
    (he : ∀ w, (execOp a.eval o).run P w = .ok (.value v') w) (hk : K v) (hv : VR ρ v v') (hb : below ρ.Z n v) : OpPure P o a ρ n K := ⟨v, v', he, hk, hv, hb⟩
variable {P R}
theorem OpOk.value {o : Oper} {a : Act} {ρ : Pl} {ow : Nat → List Nat} {h : AHeap A} {w : World} {K : AVal → AHeap A → Prop} {v : AVal} {v' : Value}
    (hr : Rep P R ρ ow h w) (he : (execOp a.eval o).run P w = .ok (.value v') w) (hk : K v h) (hv : VR ρ v v') (hb : below ρ.Z h.length v) : OpOk P R o a ρ ow h w K := by
  intro next Q hn
  simp only [Oper.wp, he, Oper.upon]
  exact hn v v' ρ ow h w hk hv hb hr (Fr.refl _ _ _ _)
theorem OpPure.ok {o : Oper} {a : Act} {ρ : Pl} {ow : Nat → List Nat} {h : AHeap A} {w : World} {K : AVal → AHeap A → Prop}
    (hp : OpPure P o a ρ h.length fun v => K v h) (hr : Rep P R ρ ow h w) : OpOk P R o a ρ ow h w K := by
  obtain ⟨v, v', he, hk, hv, hb⟩ := hp
  exact OpOk.value hr (he w) hk hv hb
theorem OpOk.value' {o : Oper} {a : Act} {ρ : Pl} {ow : Nat → List Nat} {h : AHeap A} {w : World} {K : AVal → AHeap A → Prop} {v : AVal} {v' : Value} {ρ' : Pl} {ow' : Nat → List Nat} {h' : AHeap A} {w' : World}
    (he : (execOp a.eval o).run P w = .ok (.value v') w') (hk : K v h') (hv : VR ρ' v v') (hb : below ρ'.Z h'.length v) (hr : Rep P R ρ' ow' h' w') (hf : Fr ρ ow h w ρ' ow' h' w') : OpOk P R o a ρ ow h w K := by
  intro next Q hn
  simp only [Oper.wp, he, Oper.upon]
  exact hn v v' ρ' ow' h' w' hk hv hb hr hf
theorem OpOk.skip {o : Oper} {a : Act} {ρ : Pl} {ow : Nat → List Nat} {h : AHeap A} {w : World} {K : AVal → AHeap A → Prop} {ρ' : Pl} {ow' : Nat → List Nat} {h' : AHeap A} {w' : World}
    (he : (execOp a.eval o).run P w = .ok .skip w') (hk : K .any h') (hr : Rep P R ρ' ow' h' w') (hf : Fr ρ ow h w ρ' ow' h' w') : OpOk P R o a ρ ow h w K := by
  intro next Q hn
  simp only [Oper.wp, he, Oper.upon]
  exact hn .any undef ρ' ow' h' w' hk (VR.any _ _) (by simp [below]) hr hf

/-! The types. -/
theorem info_of_und {t : TypeId} {d : TypeDesc} (h : P.underlying t = some d) : ∃ i, P.info? t = some i := by
  unfold Program.underlying at h
  split at h
  · rename_i x _ _ _ _ _ _ _ _ _ heq; exact ⟨_, heq⟩
  · rename_i i _ heq; exact ⟨_, heq⟩
  · simp at h
theorem run_und {t : TypeId} {d : TypeDesc} (h : P.underlying t = some d) (w : World) : (underlying t).run P w = .ok d w := by
  simp [underlying, h]
theorem run_ti {t : TypeId} {i : TypeInfo} (h : P.info? t = some i) (w : World) : (typeInfo t).run P w = .ok i w := by
  simp [typeInfo, h]
theorem run_szi {t : TypeId} {i : TypeInfo} (h : P.info? t = some i) (w : World) : (sizeOf t).run P w = .ok (szOf P t) w := by
  simp [sizeOf, run_ti h, szOf, Program.cellsOf, h]
theorem run_sz {t : TypeId} {d : TypeDesc} (h : P.underlying t = some d) (w : World) : (sizeOf t).run P w = .ok (szOf P t) w := by
  obtain ⟨i, hi⟩ := info_of_und h; exact run_szi hi w
theorem run_agg {t : TypeId} {d : TypeDesc} (h : P.underlying t = some d) (w : World) : (isAgg t).run P w = .ok (aggT P t) w := by
  simp only [isAgg, Sem.run_bind, run_und h, Result.andThen_ok, aggT, h]
  cases d <;> rfl

/-! Values. -/
theorem abs0_fits (ρ : Pl) (v : Value) : VR ρ (abs0 v) v := by
  cases v with
  | string s => exact VR.of_one (.inr (by simp [abs0, conc]))
  | pointer a => cases a with | none => exact VR.of_one (.inr (by simp [abs0, conc])) | some a => exact VR.any _ _
  | slice a n c =>
    cases a with
    | some a => exact VR.any _ _
    | none =>
      cases n with
      | succ n => exact VR.any _ _
      | zero => cases c with | zero => exact VR.of_one (.inr (by simp [abs0, conc])) | succ c => exact VR.any _ _
  | map r => cases r with | none => exact VR.of_one (.inr (by simp [abs0, conc])) | some a => exact VR.any _ _
  | bool b => exact VR.of_one (.inr (by simp [abs0, conc]))
  | int k n => exact VR.of_one (.inr (by simp [abs0, conc]))
  | nilFunc => exact VR.of_one (.inr (by simp [abs0, conc]))
  | nilIface => exact VR.of_one (.inr (by simp [abs0, conc]))
  | _ => exact VR.any _ _
theorem abs0_below {Z : Fz} (n : Nat) (v : Value) : below Z n (abs0 v) := by
  unfold abs0; split <;> simp [below]
theorem abs0_scalar (ρ : Pl) {v : Value} (h : (abs0 v).scalar = true) : v = conc ρ (abs0 v) := by
  have := abs0_fits ρ v
  refine this.eq ?_ ?_
  · intro e; rw [e] at h; simp [AVal.scalar] at h
  · intro vs e; rw [e] at h; simp [AVal.scalar] at h
theorem scalar_eq {ρ : Pl} {a : AVal} {v : Value} (h : VR ρ a v) (hs : a.scalar = true) : v = conc ρ a := by
  refine h.eq ?_ ?_
  · intro e; rw [e] at hs; simp [AVal.scalar] at hs
  · intro vs e; rw [e] at hs; simp [AVal.scalar] at hs
theorem scalar_one {ρ : Pl} {a : AVal} (hs : a.scalar = true) : (conc ρ a).oneCell' = true := by
  cases a <;> simp [AVal.scalar] at hs <;> simp [conc, Value.oneCell']
theorem scalar_cells {ρ : Pl} {a : AVal} (hs : a.scalar = true) : (conc ρ a).cells = #[conc ρ a] := by
  cases a <;> simp [AVal.scalar] at hs <;> simp [conc, Value.cells]

theorem eval_fits {ρ : Pl} {n : Nat} {t : Env} {a : Act} (he : EnvR ρ n t a) (x : Operand) : VR ρ (evT t x) (a.eval x) ∧ below ρ.Z n (evT t x) := by
  cases x with
  | tmp s => exact he s
  | const v => exact ⟨abs0_fits ρ v, abs0_below n v⟩
  | func f => exact ⟨VR.of_one (.inr (by simp [evT, Act.eval, conc, concs])), by simp [evT, below, belows]⟩
  | global g => exact ⟨VR.any _ _, by simp [evT, below]⟩

/-- The cells of a value. -/
theorem cs_fits {ρ : Pl} {a : AVal} {v : Value} (h : VR ρ a v) (hs : a.cs.all AVal.scalar = true) : v.cells = (concs ρ a.cs).toArray ∧ ∀ x ∈ concs ρ a.cs, x.oneCell' = true := by
  have hall : ∀ x ∈ concs ρ a.cs, x.oneCell' = true := by
    intro x hx
    rw [concs_map] at hx
    obtain ⟨y, hy, rfl⟩ := List.mem_map.1 hx
    exact scalar_one (List.all_eq_true.1 hs y hy)
  refine ⟨?_, hall⟩
  cases a with
  | agg cs => rw [h.eq (by simp) (by simp)]; simp [conc, Value.cells, AVal.cs]
  | _ =>
    first
      | (simp [AVal.cs, AVal.scalar] at hs; done)
      | (rw [h.eq (by simp) (by simp)]; simp [conc, Value.cells, AVal.cs, concs])
theorem cs_below {Z : Fz} {n : Nat} {a : AVal} (h : below Z n a) : belows Z n a.cs := by
  cases a <;> simp_all [AVal.cs, below, belows]

theorem getK_eq (K : AVal → Prop) : ∀ (t : Env) (n : Nat), getK t n K = K (getE t n)
  | [], n => rfl
  | (s, v) :: r, n => by
    simp only [getK, getE]
    cases Nat.beq s n
    · exact getK_eq K r n
    · rfl
theorem evK_eq (t : Env) (x : Operand) (K : AVal → Prop) : evK t x K = K (evT t x) := by
  cases x with
  | tmp n => exact getK_eq K t n
  | _ => rfl
theorem whenT_elim {t : TypeId} {p : Prop} (h : whenT P t p) : (∃ d, P.underlying t = some d) ∧ p := by
  unfold whenT at h
  split at h
  · rename_i d hd; exact ⟨⟨d, hd⟩, h⟩
  · exact h.elim
theorem optP_elim {r : Option AVal} {K : AVal → Prop} (h : optP r K) : ∃ v, r = some v ∧ K v := by
  cases r with
  | none => exact h.elim
  | some v => exact ⟨v, rfl, h⟩
theorem hP_elim {r : Option (AHeap A)} {K : AHeap A → Prop} (h : hP r K) : ∃ v, r = some v ∧ K v := by
  cases r with
  | none => exact h.elim
  | some v => exact ⟨v, rfl, h⟩
end Go.AI
namespace Go.AI
variable {A : Type} {P : Program} {R : Adts A} {ρ : Pl} {ow : Nat → List Nat} {h : AHeap A} {w : World} {a : Act} {t : Env} {o : Oper} {K : AVal → AHeap A → Prop}

theorem VR.bool {b : Bool} {v : Value} (h : VR ρ (.bool b) v) : v = .bool b := by rw [h.eq (by simp) (by simp)]; simp [conc]
theorem VR.int {k : IntKind} {n : Int} {v : Value} (h : VR ρ (.int k n) v) : v = .int k n := by rw [h.eq (by simp) (by simp)]; simp [conc]
theorem VR.str {s : List UInt8} {v : Value} (h : VR ρ (.str s) v) : v = .string ⟨s.toArray⟩ := by rw [h.eq (by simp) (by simp)]; simp [conc]
theorem VR.ptr {b o : Nat} {v : Value} (h : VR ρ (.ptr b o) v) : v = .pointer (some ⟨(ρ b).blk, (ρ b).base + o, none⟩) := by rw [h.eq (by simp) (by simp)]; simp [conc]
theorem VR.fp {b o : Nat} {cs : List AVal} {v : Value} (h : VR ρ (.fp b o cs) v) : v = .pointer (some ⟨b, o, none⟩) := by rw [h.eq (by simp) (by simp)]; simp [conc]
theorem VR.lst {b o n c : Nat} {cs : List AVal} {v : Value} (h : VR ρ (.lst b o n c cs) v) : v = .slice (some ⟨b, o, none⟩) n c := by rw [h.eq (by simp) (by simp)]; simp [conc]
theorem VR.agg {cs : List AVal} {v : Value} (h : VR ρ (.agg cs) v) : v = .agg (concs ρ cs).toArray := by rw [h.eq (by simp) (by simp)]; simp [conc]
theorem VR.sl {b o n c : Nat} {ex : Bool} {v : Value} (h : VR ρ (.sl b o n c ex) v) : v = .slice (some ⟨(ρ b).blk, (ρ b).base + o, none⟩) n (if ex = true then c else c + (ρ b).spare) := by rw [h.eq (by simp) (by simp)]; simp [conc]
theorem VR.odd {x : Addr} {v : Value} (h : VR ρ (.odd x) v) : v = .slice (some x) 0 0 := by rw [h.eq (by simp) (by simp)]; simp [conc]
theorem VR.nils {v : Value} (h : VR ρ .nils v) : v = .slice none 0 0 := by rw [h.eq (by simp) (by simp)]; simp [conc]
theorem VR.empt {b o s : Nat} {v : Value} (h : VR ρ (.empt b o s) v) : v = .slice (some ⟨(ρ b).blk, (ρ b).base + (if (ρ b).spare = 0 then o else o + s), none⟩) 0 (ρ b).spare := by rw [h.eq (by simp) (by simp)]; simp [conc]
theorem VR.nilp {v : Value} (h : VR ρ .nilp v) : v = .pointer none := by rw [h.eq (by simp) (by simp)]; simp [conc]
theorem VR.map {b : Nat} {v : Value} (h : VR ρ (.map b) v) : v = .map (some (ρ b).blk) := by rw [h.eq (by simp) (by simp)]; simp [conc]
theorem VR.nilm {v : Value} (h : VR ρ .nilm v) : v = .map none := by rw [h.eq (by simp) (by simp)]; simp [conc]
theorem VR.nili {v : Value} (h : VR ρ .nili v) : v = .nilIface := by rw [h.eq (by simp) (by simp)]; simp [conc]
theorem VR.iface {t : TypeId} {x : AVal} {v : Value} (h : VR ρ (.iface t x) v) : v = .iface t (conc ρ x) := by rw [h.eq (by simp) (by simp)]; simp [conc]
theorem VR.fn {f : Fn} {x y : List AVal} {v : Value} (h : VR ρ (.fn f x y) v) : v = .func f (concs ρ x).toArray (concs ρ y).toArray := by rw [h.eq (by simp) (by simp)]; simp [conc]

theorem ok_move {x : Operand} (ho : o.op = .move x ∨ o.op = .assign x) (hk : K (evT t x) h) (he : EnvR ρ h.length t a) : OpPure P o a ρ h.length (fun v => K v h) := by
  have hx := eval_fits he x
  refine OpPure.of (v' := a.eval x) ?_ hk hx.1 hx.2
  rcases ho with ho | ho <;> simp [execOp, ho]

theorem ok_pick {c x y : Operand} (ho : o.op = .pick c x y) (hk : pickP (evT t c) (evT t x) (evT t y) fun v => K v h) (he : EnvR ρ h.length t a) : OpPure P o a ρ h.length (fun v => K v h) := by
  have hc := eval_fits he c
  have hx := eval_fits he x
  have hy := eval_fits he y
  unfold pickP at hk
  split at hk
  · rename_i b hb
    rw [hb] at hc
    have hc' := hc.1.bool
    refine OpPure.of (v' := if b = true then a.eval x else a.eval y) ?_ hk ?_ ?_
    · simp [execOp, ho, hc', asBool]
    · split
      · exact hx.1
      · exact hy.1
    · split
      · exact hx.2
      · exact hy.2
  · exact hk.elim

theorem ok_not {T : TypeId} {x : Operand} (ho : o.op = .unOp .not T x) (hk : notP (evT t x) fun v => K v h) (he : EnvR ρ h.length t a) : OpPure P o a ρ h.length (fun v => K v h) := by
  have hx := eval_fits he x
  unfold notP at hk
  split at hk
  · rename_i b hb
    rw [hb] at hx
    refine OpPure.of (v' := .bool (!b)) ?_ hk (VR.of_eq ρ _) trivial
    simp [execOp, ho, hx.1.bool, Op.unary]
  · exact hk.elim
theorem ok_neg {T : TypeId} {x : Operand} (ho : o.op = .unOp .neg T x) (hk : negP (evT t x) fun v => K v h) (he : EnvR ρ h.length t a) : OpPure P o a ρ h.length (fun v => K v h) := by
  have hx := eval_fits he x
  unfold negP at hk
  split at hk
  · rename_i k n hb
    rw [hb] at hx
    refine OpPure.of (v' := .int k (k.wrap (0 - n))) ?_ hk (VR.of_one (.inr (by simp [conc]))) trivial
    simp [execOp, ho, hx.1.int, Op.unary, Op.intArith]
  · exact hk.elim
theorem ok_cpl {T : TypeId} {x : Operand} (ho : o.op = .unOp .xor T x) (hk : cplP (evT t x) fun v => K v h) (he : EnvR ρ h.length t a) : OpPure P o a ρ h.length (fun v => K v h) := by
  have hx := eval_fits he x
  unfold cplP at hk
  split at hk
  · rename_i k n hb
    rw [hb] at hx
    refine OpPure.of (v' := .int k (bits k (· ^^^ ·) (if k.signed then -1 else k.max) n)) ?_ hk (VR.of_one (.inr (by simp [conc]))) trivial
    simp [execOp, ho, hx.1.int, Op.unary, Op.intBits, bits]
  · exact hk.elim

theorem ok_ext {x : Operand} {i : Nat} (ho : o.op = .extract x i) (hk : extP (evT t x) i fun v => K v h) (he : EnvR ρ h.length t a) : OpPure P o a ρ h.length (fun v => K v h) := by
  have hx := eval_fits he x
  unfold extP at hk
  split at hk
  · rename_i vs hb
    obtain ⟨v, hv, hk⟩ := optP_elim hk
    rw [hb] at hx
    obtain ⟨hx, hbl⟩ := hx
    obtain ⟨l, hl, hlen, hg⟩ := hx.part
    obtain ⟨y, hy, hy1⟩ := hg i v hv
    refine OpPure.of (v' := y) ?_ hk hy1 ((belows_iff _ _ vs).1 hbl v (List.mem_of_getElem? hv))
    simp [execOp, ho, hl, Instr.extract, hy]
  · exact hk.elim

theorem ok_nil {x : Operand} (ho : o.op = .nilCheck x) (hk : nilP (evT t x) fun v => K v h) (he : EnvR ρ h.length t a) : OpPure P o a ρ h.length (fun v => K v h) := by
  have hx := eval_fits he x
  unfold nilP at hk
  split at hk
  · rename_i b p hb
    rw [hb] at hx
    refine OpPure.of (v' := a.eval x) ?_ hk hx.1 hx.2
    simp [execOp, ho, hx.1.ptr]
  · rename_i b p cs hb
    rw [hb] at hx
    refine OpPure.of (v' := a.eval x) ?_ hk hx.1 hx.2
    simp [execOp, ho, hx.1.fp]
  · rename_i f p c hb
    rw [hb] at hx
    refine OpPure.of (v' := a.eval x) ?_ hk hx.1 hx.2
    simp [execOp, ho, hx.1.fn]
  · exact hk.elim

theorem ok_iface {T : TypeId} {x : Operand} {d : TypeDesc} (ho : o.op = .makeInterface T x) (hd : P.underlying T = some d) (hi : ∀ m, d ≠ .interface m)
    (hk : mkiP T (evT t x) fun v => K v h) (he : EnvR ρ h.length t a) : OpPure P o a ρ h.length (fun v => K v h) := by
  have hx := eval_fits he x
  unfold mkiP at hk
  split at hk
  · rename_i hs
    have hcs := cs_fits hx.1 hs
    have hv : a.eval x = conc ρ (evT t x) := by
      refine hx.1.eq ?_ ?_
      · intro e; rw [e] at hs; simp [AVal.cs, AVal.scalar] at hs
      · intro vs e; rw [e] at hs; simp [AVal.cs, AVal.scalar] at hs
    refine OpPure.of (v' := .iface T (a.eval x)) ?_ hk (VR.of_one (.inr (by simp [conc, hv]))) (by simpa [below] using hx.2)
    intro w
    simp only [execOp, ho, Instr.makeInterface, Sem.run_bind, run_und hd, Result.andThen_ok]
    cases d <;> first | rfl | exact absurd rfl (hi _)
  · exact hk.elim

theorem args_fits (he : EnvR ρ h.length t a) : ∀ (l : List Operand), VRs ρ (args (evT t) l) (l.map a.eval) ∧ belows ρ.Z h.length (args (evT t) l)
  | [] => ⟨⟨rfl, by simp [args]⟩, trivial⟩
  | x :: r => by
    obtain ⟨⟨h1, h2⟩, h3⟩ := args_fits he r
    have hx := eval_fits he x
    refine ⟨⟨by simp [args, h1], fun i b hi => ?_⟩, ?_⟩
    · cases i with
      | zero => simp [args] at hi; subst hi; exact ⟨_, by simp, hx.1⟩
      | succ i => simp [args] at hi; obtain ⟨v, hv, hf⟩ := h2 i b hi; exact ⟨v, by simpa using hv, hf⟩
    · simp only [args, belows]; exact ⟨hx.2, h3⟩
theorem args_concs (he : EnvR ρ h.length t a) : ∀ (l : List Operand), (args (evT t) l).all AVal.scalar = true → l.map a.eval = concs ρ (args (evT t) l)
  | [], _ => rfl
  | x :: r, hs => by
    simp only [args, List.all_cons, Bool.and_eq_true] at hs
    have hx := eval_fits he x
    simp only [List.map_cons, args, concs]
    rw [args_concs he r hs.2, scalar_eq hx.1 hs.1]

theorem ok_fn {f : Fn} {x y : Array Operand} (ho : o.op = .makeFunc f x y) (hk : mkfP f (args (evT t) x.toList) (args (evT t) y.toList) fun v => K v h) (he : EnvR ρ h.length t a) : OpPure P o a ρ h.length (fun v => K v h) := by
  unfold mkfP at hk
  split at hk
  · rename_i hs
    have h1 := args_concs he x.toList hs.1
    have h2 := args_concs he y.toList hs.2
    have b1 := args_fits he x.toList
    have b2 := args_fits he y.toList
    refine OpPure.of (v' := .func f (x.map a.eval) (y.map a.eval)) (by simp [execOp, ho, Instr.makeFunc]) hk (VR.of_one (.inr ?_)) (by simp only [below]; exact ⟨b1.2, b2.2⟩)
    simp only [conc, ← h1, ← h2]
    congr 1 <;> (apply Array.ext'; simp)
  · exact hk.elim
end Go.AI
namespace Go.AI
variable {A : Type} {P : Program} {R : Adts A} {ρ : Pl} {ow : Nat → List Nat} {h : AHeap A} {w : World} {a : Act} {t : Env} {o : Oper} {K : AVal → AHeap A → Prop}

theorem run_binI {op : BinOp} {k : IntKind} {x y : Int} {T : TypeId} {v : AVal} (hs : op ≠ .shl ∧ op ≠ .shr) (hv : binI op k x y = some v) :
    (binOp op T (.int k x) (.int k y)).run P w = .ok (conc ρ v) w ∧ below ρ.Z 0 v ∧ v ≠ .any := by
  cases op <;> simp [binI] at hv <;> (try (exact absurd rfl hs.1)) <;> (try (exact absurd rfl hs.2)) <;> (try (split at hv <;> simp at hv)) <;>
    first
      | (obtain ⟨hy, rfl⟩ := hv; simp [binOp, Op.intDiv, hy, conc, below])
      | (subst hv; simp_all [binOp, Op.intArith, Op.intDiv, Op.intBits, Op.intCmp, conc, below, bits])

theorem run_shiftI {op : BinOp} {k k' : IntKind} {x y : Int} {T : TypeId} {v : AVal} (hs : op = .shl ∨ op = .shr) (hv : shiftI op k x y = some v) :
    (binOp op T (.int k x) (.int k' y)).run P w = .ok (conc ρ v) w ∧ below ρ.Z 0 v ∧ v ≠ .any := by
  unfold shiftI at hv
  split at hv
  · simp at hv
  · rename_i hy
    rcases hs with rfl | rfl <;> simp at hv <;> subst hv <;> simp [binOp, Op.shift, hy, conc, below]

theorem bytes_append (x y : List UInt8) : (⟨x.toArray⟩ : ByteArray) ++ ⟨y.toArray⟩ = ⟨(x ++ y).toArray⟩ := by
  apply ByteArray.ext
  simp [ByteArray.data_append]
theorem bytes_toList (x : List UInt8) : (⟨x.toArray⟩ : ByteArray).toList = x := by rw [ByteArray.toList_eq]
theorem bytes_eq (x y : List UInt8) : ((⟨x.toArray⟩ : ByteArray) = ⟨y.toArray⟩) ↔ x = y := by
  constructor
  · intro e
    have := congrArg (fun b : ByteArray => b.data.toList) e
    simpa using this
  · rintro rfl; rfl
theorem bytes_beq (x y : List UInt8) : ((⟨x.toArray⟩ : ByteArray) == ⟨y.toArray⟩) = (x == y) := by
  show (x.toArray == y.toArray) = _
  simp
theorem i64_max : IntKind.i64.max = 9223372036854775807 := by decide

theorem run_binS {op : BinOp} {x y : List UInt8} {T : TypeId} {v : AVal} (hv : binS op x y = some v) :
    (binOp op T (.string ⟨x.toArray⟩) (.string ⟨y.toArray⟩)).run P w = .ok (conc ρ v) w ∧ below ρ.Z 0 v ∧ v ≠ .any := by
  cases op <;> simp [binS] at hv
  · obtain ⟨hl, rfl⟩ := hv
    have : ((x.length : Int) + (y.length : Int)) ≤ 9223372036854775807 := by omega
    simp [binOp, Op.stringOp, ByteArray.size, i64_max, this, conc, below, bytes_append]
  · subst hv; simp [binOp, Op.stringOp, bytes_toList, conc, below]
  · subst hv; simp [binOp, Op.stringOp, bytes_toList, conc, below, bne]

theorem run_guard {op : BinOp} {T : TypeId} {x y : Operand} {u v : Value} (h1 : ¬ (u = .nilIface ∧ v = .nilIface)) (h2 : ∀ p q, ¬ (u = .agg p ∧ v = .agg q)) (w : World) :
    (eqGuard op T x y u v).run P w = .ok () w := by
  have key : (match u, v with
      | .nilIface, .nilIface => (if (x matches .const _) || (y matches .const _) then pure () else do
          if ← Op.eqGuardIn Op.maxDepth T u v then unsupported (.noEntry "binop/eql: two nil values of an interface type with methods, neither of them the literal nil") else pure () : Sem Unit)
      | .agg _, .agg _ => do
        if !(← program).eqGuardType (← program).depth T then pure () else do
        if ← Op.eqGuardIn Op.maxDepth T u v then unsupported (.noEntry "binop/eql: two nil values of an interface type with methods, in a part of a struct or an array") else pure ()
      | _, _ => pure ()).run P w = .ok () w := by
    split
    · exact absurd ⟨rfl, rfl⟩ h1
    · exact absurd ⟨rfl, rfl⟩ (h2 _ _)
    · rfl
  cases op <;> first | rfl | exact key
theorem run_guard_const {op : BinOp} {T : TypeId} {x y : Operand} (hc : (isConst x || isConst y) = true) (w : World) :
    (eqGuard op T x y .nilIface .nilIface).run P w = .ok () w := by
  cases op <;> first | rfl | (cases x <;> cases y <;> first | rfl | (simp [isConst] at hc))

theorem exec_bin {op : BinOp} {T U : TypeId} {x y : Operand} {v : Value} (ho : o.op = .binOp op T x y U)
    (hg : (eqGuard op T x y (a.eval x) (a.eval y)).run P w = .ok () w) (hb : (binOp op T (a.eval x) (a.eval y)).run P w = .ok v w) :
    (execOp a.eval o).run P w = .ok (.value v) w := by
  simp [execOp, ho, hg, hb]

theorem ok_bin_ii {op : BinOp} {T U : TypeId} {x y : Operand} {k k' : IntKind} {m n : Int} {v : AVal} (ho : o.op = .binOp op T x y U) (hx : a.eval x = .int k m) (hy : a.eval y = .int k' n)
    (hv : ∀ w, (binOp op T (.int k m) (.int k' n)).run P w = .ok (conc ρ v) w ∧ below ρ.Z 0 v ∧ v ≠ .any) (hk : K v h) : OpPure P o a ρ h.length (fun v => K v h) := by
  refine OpPure.of (v' := conc ρ v) (fun w => exec_bin ho ?_ ?_) hk (VR.of_eq ρ v) (below_mono (by omega) _ (hv default).2.1)
  · rw [hx, hy]; exact run_guard (by simp) (by simp) w
  · rw [hx, hy]; exact (hv w).1
theorem ok_bin_ss {op : BinOp} {T U : TypeId} {x y : Operand} {m n : List UInt8} {v : AVal} (ho : o.op = .binOp op T x y U) (hx : a.eval x = .string ⟨m.toArray⟩) (hy : a.eval y = .string ⟨n.toArray⟩)
    (hv : binS op m n = some v) (hk : K v h) : OpPure P o a ρ h.length (fun v => K v h) := by
  have h3 := fun w => run_binS (P := P) (ρ := ρ) (w := w) (T := T) hv
  refine OpPure.of (v' := conc ρ v) (fun w => exec_bin ho ?_ ?_) hk (VR.of_eq ρ v) (below_mono (by omega) _ (h3 default).2.1)
  · rw [hx, hy]; exact run_guard (by simp) (by simp) w
  · rw [hx, hy]; exact (h3 w).1

theorem cmp_und {T : TypeId} {x y : Operand} {c : Cmp} (hc : cmpOf P T x y = c) :
    match c with
    | .other => True
    | .ptr => ∃ e, P.underlying T = some (.pointer e)
    | .sl => ∃ e, P.underlying T = some (.slice e)
    | .mp => ∃ k e, P.underlying T = some (.map k e)
    | .ifc => (∃ m, P.underlying T = some (.interface m)) ∧ (isConst x || isConst y) = true
    | .bl => P.underlying T = some .bool
    | .shape s => tshape P 20 T = some s ∧ P.eqGuardType P.depth T = false := by
  unfold cmpOf at hc
  cases hd : P.underlying T with
  | none => rw [hd] at hc; simp only at hc; subst hc; trivial
  | some d =>
    rw [hd] at hc
    cases d with
    | struct fs =>
      simp only at hc
      cases hs : tshape P 20 T with
      | none => rw [hs] at hc; simp only at hc; subst hc; trivial
      | some s =>
        rw [hs] at hc
        simp only at hc
        by_cases hg : P.eqGuardType P.depth T = false
        · rw [if_pos hg] at hc; subst hc; exact ⟨rfl, hg⟩
        · rw [if_neg hg] at hc; subst hc; trivial
    | interface m =>
      simp only at hc
      by_cases hg : (isConst x || isConst y) = true
      · rw [if_pos hg] at hc; subst hc; exact ⟨⟨m, rfl⟩, hg⟩
      · rw [if_neg hg] at hc; subst hc; trivial
    | pointer e => simp only at hc; subst hc; exact ⟨e, rfl⟩
    | slice e => simp only at hc; subst hc; exact ⟨e, rfl⟩
    | map k e => simp only at hc; subst hc; exact ⟨k, e, rfl⟩
    | bool => simp only at hc; subst hc; rfl
    | _ => simp only at hc; subst hc; trivial

theorem equal_succ (T : TypeId) (u v : Value) : Op.equal T u v = Op.equalIn (9999 + 1) T u v := rfl
theorem eq_ptr1 {T e : TypeId} (hd : P.underlying T = some (.pointer e)) (b : Option Addr) : (Op.equal T (.pointer none) (.pointer b)).run P w = .ok b.isNone w := by
  rw [equal_succ, Op.equalIn]; simp [run_und hd]
theorem eq_ptr2 {T e : TypeId} (hd : P.underlying T = some (.pointer e)) (b : Addr) : (Op.equal T (.pointer (some b)) (.pointer none)).run P w = .ok false w := by
  rw [equal_succ, Op.equalIn]; simp [run_und hd]
theorem eq_sl1 {T e : TypeId} (hd : P.underlying T = some (.slice e)) (b : Option Addr) (m n m' n' : Nat) : (Op.equal T (.slice none m n) (.slice b m' n')).run P w = .ok b.isNone w := by
  rw [equal_succ, Op.equalIn]; simp [run_und hd]
theorem eq_sl2 {T e : TypeId} (hd : P.underlying T = some (.slice e)) (b : Addr) (m n m' n' : Nat) : (Op.equal T (.slice (some b) m n) (.slice none m' n')).run P w = .ok false w := by
  rw [equal_succ, Op.equalIn]; simp [run_und hd]
theorem eq_mp1 {T k e : TypeId} (hd : P.underlying T = some (.map k e)) (b : Option Nat) : (Op.equal T (.map none) (.map b)).run P w = .ok b.isNone w := by
  rw [equal_succ, Op.equalIn]; simp [run_und hd]
theorem eq_mp2 {T k e : TypeId} (hd : P.underlying T = some (.map k e)) (b : Nat) : (Op.equal T (.map (some b)) (.map none)).run P w = .ok false w := by
  rw [equal_succ, Op.equalIn]; simp [run_und hd]
theorem eq_if0 {T : TypeId} {m} (hd : P.underlying T = some (.interface m)) : (Op.equal T .nilIface .nilIface).run P w = .ok true w := by
  rw [equal_succ, Op.equalIn]; simp [run_und hd]
theorem eq_if1 {T : TypeId} {m} (hd : P.underlying T = some (.interface m)) (u : TypeId) (v : Value) : (Op.equal T .nilIface (.iface u v)).run P w = .ok false w := by
  rw [equal_succ, Op.equalIn]; simp [run_und hd]
theorem eq_if2 {T : TypeId} {m} (hd : P.underlying T = some (.interface m)) (u : TypeId) (v : Value) : (Op.equal T (.iface u v) .nilIface).run P w = .ok false w := by
  rw [equal_succ, Op.equalIn]; simp [run_und hd]
theorem eq_bl {T : TypeId} (hd : P.underlying T = some .bool) (b c : Bool) : (Op.equal T (.bool b) (.bool c)).run P w = .ok (b == c) w := by
  rw [equal_succ, Op.equalIn]; simp [run_und hd]

theorem eqN_run {T : TypeId} {x y : Operand} {c : Cmp} {u v : AVal} {u' v' : Value} {r : Bool} (hc : cmpOf P T x y = c) (hv : eqN c u v = some r) (hu : VR ρ u u') (hv' : VR ρ v v') :
    (Op.equal T u' v').run P w = .ok r w ∧ (∀ op, (eqGuard op T x y u' v').run P w = .ok () w) ∧ (∀ z, (binOp .eql T u' v') = z → z = (do pure (.bool (← Op.equal T u' v')))) ∧ (binOp .neq T u' v') = (do pure (.bool (!(← Op.equal T u' v')))) := by
  have hun := cmp_und hc
  unfold eqN at hv
  split at hv <;> (try (exfalso; simp at hv; done)) <;> simp only [Option.some.injEq] at hv <;> subst hv
  · obtain rfl := hu.bool; obtain rfl := hv'.bool
    exact ⟨eq_bl hun _ _, fun op => run_guard (by simp) (by simp) w, fun z hz => hz ▸ rfl, rfl⟩
  · obtain ⟨e, he⟩ := hun; obtain rfl := hu.nilp; obtain rfl := hv'.nilp
    exact ⟨eq_ptr1 he _, fun op => run_guard (by simp) (by simp) w, fun z hz => hz ▸ rfl, rfl⟩
  · obtain ⟨e, he⟩ := hun; obtain rfl := hu.nilp; obtain rfl := hv'.ptr
    exact ⟨eq_ptr1 he _, fun op => run_guard (by simp) (by simp) w, fun z hz => hz ▸ rfl, rfl⟩
  · obtain ⟨e, he⟩ := hun; obtain rfl := hu.ptr; obtain rfl := hv'.nilp
    exact ⟨eq_ptr2 he _, fun op => run_guard (by simp) (by simp) w, fun z hz => hz ▸ rfl, rfl⟩
  · obtain ⟨e, he⟩ := hun; obtain rfl := hu.nils; obtain rfl := hv'.nils
    exact ⟨eq_sl1 he _ _ _ _ _, fun op => run_guard (by simp) (by simp) w, fun z hz => hz ▸ rfl, rfl⟩
  · obtain ⟨e, he⟩ := hun; obtain rfl := hu.sl; obtain rfl := hv'.nils
    exact ⟨eq_sl2 he _ _ _ _ _, fun op => run_guard (by simp) (by simp) w, fun z hz => hz ▸ rfl, rfl⟩
  · obtain ⟨e, he⟩ := hun; obtain rfl := hu.empt; obtain rfl := hv'.nils
    exact ⟨eq_sl2 he _ _ _ _ _, fun op => run_guard (by simp) (by simp) w, fun z hz => hz ▸ rfl, rfl⟩
  · obtain ⟨e, he⟩ := hun; obtain rfl := hu.lst; obtain rfl := hv'.nils
    exact ⟨eq_sl2 he _ _ _ _ _, fun op => run_guard (by simp) (by simp) w, fun z hz => hz ▸ rfl, rfl⟩
  · obtain ⟨e, he⟩ := hun; obtain rfl := hu.odd; obtain rfl := hv'.nils
    exact ⟨eq_sl2 he _ _ _ _ _, fun op => run_guard (by simp) (by simp) w, fun z hz => hz ▸ rfl, rfl⟩
  · obtain ⟨e, he⟩ := hun; obtain rfl := hu.nilp; obtain rfl := hv'.fp
    exact ⟨eq_ptr1 he _, fun op => run_guard (by simp) (by simp) w, fun z hz => hz ▸ rfl, rfl⟩
  · obtain ⟨e, he⟩ := hun; obtain rfl := hu.fp; obtain rfl := hv'.nilp
    exact ⟨eq_ptr2 he _, fun op => run_guard (by simp) (by simp) w, fun z hz => hz ▸ rfl, rfl⟩
  · obtain ⟨k, e, he⟩ := hun; obtain rfl := hu.nilm; obtain rfl := hv'.nilm
    exact ⟨eq_mp1 he _, fun op => run_guard (by simp) (by simp) w, fun z hz => hz ▸ rfl, rfl⟩
  · obtain ⟨k, e, he⟩ := hun; obtain rfl := hu.map; obtain rfl := hv'.nilm
    exact ⟨eq_mp2 he _, fun op => run_guard (by simp) (by simp) w, fun z hz => hz ▸ rfl, rfl⟩
  · obtain ⟨⟨m, hm⟩, hcc⟩ := hun; obtain rfl := hu.nili; obtain rfl := hv'.nili
    exact ⟨eq_if0 hm, fun op => run_guard_const hcc w, fun z hz => hz ▸ rfl, rfl⟩
  · obtain ⟨⟨m, hm⟩, hcc⟩ := hun; obtain rfl := hu.iface; obtain rfl := hv'.nili
    exact ⟨eq_if2 hm _ _, fun op => run_guard (by simp) (by simp) w, fun z hz => hz ▸ rfl, rfl⟩
  · obtain ⟨⟨m, hm⟩, hcc⟩ := hun; obtain rfl := hu.nili; obtain rfl := hv'.iface
    exact ⟨eq_if1 hm _ _, fun op => run_guard (by simp) (by simp) w, fun z hz => hz ▸ rfl, rfl⟩

theorem ok_bin_nil {op : BinOp} {T U : TypeId} {x y : Operand} {r : Bool} (ho : o.op = .binOp op T x y U) (hop : op = .eql ∨ op = .neq)
    (hv : eqN (cmpOf P T x y) (evT t x) (evT t y) = some r) (hk : K (.bool (if op = .eql then r else !r)) h) (he : EnvR ρ h.length t a) : OpPure P o a ρ h.length (fun v => K v h) := by
  have hx := (eval_fits he x).1
  have hy := (eval_fits he y).1
  have key := fun w => eqN_run (w := w) rfl hv hx hy
  rcases hop with rfl | rfl
  · refine OpPure.of (v' := .bool r) (fun w => exec_bin ho ((key w).2.1 _) ?_) hk (VR.of_one (.inr (by simp [conc]))) trivial
    rw [(key w).2.2.1 _ rfl]; simp [(key w).1]
  · refine OpPure.of (v' := .bool (!r)) (fun w => exec_bin ho ((key w).2.1 _) ?_) hk (VR.of_one (.inr (by simp [conc]))) trivial
    rw [(key w).2.2.2]; simp [(key w).1]
end Go.AI
namespace Go.AI
variable {A : Type} {P : Program} {R : Adts A} {ρ : Pl} {ow : Nat → List Nat} {h : AHeap A} {w : World} {a : Act} {t : Env} {o : Oper} {K : AVal → AHeap A → Prop}

/-- The value that cells of a shape are. -/
def tv (ρ : Pl) : Sh → List AVal → Value
  | .st _, xs => .agg (concs ρ xs).toArray
  | _, [v] => conc ρ v
  | _, _ => undef
def Sh.isSt : Sh → Bool
  | .st _ => true
  | _ => false

theorem tshape_agg {n : Nat} {T : TypeId} {s : Sh} (hs : tshape P n T = some s) : aggT P T = s.isSt ∧ ∃ d, P.underlying T = some d := by
  cases n with
  | zero => simp [tshape] at hs
  | succ n =>
    unfold tshape at hs
    unfold aggT
    cases hd : P.underlying T with
    | none => rw [hd] at hs; simp at hs
    | some d =>
      rw [hd] at hs
      refine ⟨?_, d, rfl⟩
      cases d <;> simp only at hs <;> (try (simp at hs; done)) <;> (try (simp only [Option.some.injEq] at hs; subst hs; rfl))
      split at hs
      · simp only [Option.map_eq_some_iff] at hs; obtain ⟨l, _, rfl⟩ := hs; rfl
      · simp at hs

theorem run_part {T : TypeId} {n : Nat} {s : Sh} {xs : List AVal} {off : Nat} (hs : tshape P n T = some s) (h1 : ∀ fs, s = .st fs → True) (hl : s.isSt = true ∨ ∃ v, (xs.drop off).take (P.cellsOf T) = [v]) :
    (part T (concs ρ xs).toArray off).run P w = .ok (tv ρ s ((xs.drop off).take (P.cellsOf T))) w := by
  obtain ⟨ha, d, hd⟩ := tshape_agg hs
  unfold part
  simp only [Sem.run_bind, run_agg hd, Result.andThen_ok, ha]
  cases s with
  | st fs =>
    simp only [Sh.isSt, if_true, Sem.run_bind, run_sz hd, Result.andThen_ok, tv, szOf]
    show Result.ok _ w = _
    congr 2
    apply Array.ext'
    simp [concs_take, concs_drop]
  | _ =>
    rcases hl with hl | ⟨v, hv⟩
    · simp [Sh.isSt] at hl
    · have hx : xs[off]? = some v := by
        have := congrArg (fun l => l[0]?) hv
        simp only [List.getElem?_take, List.getElem?_drop, Nat.add_zero, List.getElem?_cons_zero] at this
        split at this
        · exact this
        · simp at this
      rw [hv]
      simp [Sh.isSt, tv, concs_get, hx]

def stepF (d : Nat) (xs ys : Array Value) (f : Field) (_ : Option Bool × Unit) : Sem (ForInStep (Option Bool × Unit)) :=
  if f.name ≠ "_" then do
    let u ← part f.type xs f.offset
    let v ← part f.type ys f.offset
    let r ← Op.equalIn d f.type u v
    if (!r) = true then pure (ForInStep.done (some false, ())) else pure (ForInStep.yield (none, ()))
  else pure (ForInStep.yield (none, ()))

theorem shEq_leaf {s : Sh} {xs ys : List AVal} {r : Bool} (hs : s.isSt = false) (hv : shEq s xs ys = some r) : (∃ u, xs = [u]) ∧ ∃ v, ys = [v] := by
  cases s with
  | st fs => simp [Sh.isSt] at hs
  | _ => unfold shEq at hv; split at hv <;> first | (simp at hv; done) | (simp_all; done) | exact ⟨⟨_, rfl⟩, ⟨_, rfl⟩⟩

/-- Field by field. -/
theorem run_stepFs (d n : Nat) (xs ys : List AVal)
    (ih : ∀ (T : TypeId) (s : Sh), tshape P n T = some s → ∀ (us vs : List AVal) (r : Bool), shEq s us vs = some r → (Op.equalIn d T (tv ρ s us) (tv ρ s vs)).run P w = .ok r w) :
    ∀ (l : List Field) (ss : List (Nat × Nat × Sh)) (r : Bool), (l.all fun f => f.name != "_") = true →
      (l.mapM fun f => (tshape P n f.type).map fun s => (f.offset, P.cellsOf f.type, s)) = some ss → shEqs ss xs ys = some r →
      (forIn l ((none, ()) : Option Bool × Unit) (stepF d (concs ρ xs).toArray (concs ρ ys).toArray)).run P w = .ok (if r = true then (none, ()) else (some false, ())) w
  | [], ss, r, _, hm, hv => by
    simp at hm; subst hm
    simp [shEqs] at hv; subst hv
    simp
  | f :: l, ss, r, hn, hm, hv => by
    simp only [List.all_cons, Bool.and_eq_true] at hn
    simp only [List.mapM_cons, Option.bind_eq_bind, Option.bind_eq_some_iff, Option.map_eq_some_iff, Option.pure_def, Option.some.injEq] at hm
    obtain ⟨x, ⟨s, hs, rfl⟩, ss', hm', rfl⟩ := hm
    simp only [shEqs] at hv
    split at hv
    · rename_i r1 r2 h1 h2
      simp only [Option.some.injEq] at hv
      subst hv
      have hnm : f.name ≠ "_" := by simpa using hn.1
      have hl : s.isSt = true ∨ ((∃ v, (xs.drop f.offset).take (P.cellsOf f.type) = [v]) ∧ ∃ v, (ys.drop f.offset).take (P.cellsOf f.type) = [v]) := by
        cases hs' : s.isSt with
        | true => exact .inl rfl
        | false => exact .inr (shEq_leaf hs' h1)
      have p1 := run_part (w := w) (ρ := ρ) (xs := xs) (off := f.offset) hs (fun _ _ => trivial) (hl.imp id (·.1))
      have p2 := run_part (w := w) (ρ := ρ) (xs := ys) (off := f.offset) hs (fun _ _ => trivial) (hl.imp id (·.2))
      have p3 := ih f.type s hs _ _ r1 h1
      have rest := run_stepFs d n xs ys ih l ss' r2 hn.2 hm' h2
      simp only [List.forIn_cons, stepF, hnm, ne_eq, not_false_eq_true, if_true, Sem.run_bind, p1, p2, p3, Result.andThen_ok]
      cases r1 with
      | true => simp only [Bool.not_true, Bool.false_eq_true, if_false, Sem.run_pure, Result.andThen_ok, Bool.true_and]; exact rest
      | false => simp
    · simp at hv

theorem run_shEq : ∀ (n : Nat) (T : TypeId) (s : Sh), tshape P n T = some s → ∀ d, n ≤ d → ∀ (us vs : List AVal) (r : Bool), shEq s us vs = some r →
    (Op.equalIn d T (tv ρ s us) (tv ρ s vs)).run P w = .ok r w
  | 0, T, s, hs, _, _, _, _, _, _ => by simp [tshape] at hs
  | n + 1, T, s, hs, 0, hd, _, _, _, _ => by omega
  | n + 1, T, s, hs, d + 1, hd, us, vs, r, hv => by
    unfold tshape at hs
    cases hT : P.underlying T with
    | none => rw [hT] at hs; simp at hs
    | some D =>
      rw [hT] at hs
      cases D <;> simp only at hs <;> (try (simp at hs; done))
      · simp only [Option.some.injEq] at hs; subst hs
        unfold shEq at hv; split at hv <;> simp_all
        rw [Op.equalIn]; simp [run_und hT, tv, conc]; exact hv
      · simp only [Option.some.injEq] at hs; subst hs
        unfold shEq at hv; split at hv <;> simp_all
        rw [Op.equalIn]; simp [run_und hT, tv, conc]; exact hv.2
      · simp only [Option.some.injEq] at hs; subst hs
        unfold shEq at hv; split at hv <;> simp_all
        rw [Op.equalIn]; simp [run_und hT, tv, conc, bytes_beq]; exact hv
      · rename_i fs
        split at hs
        · rename_i hc
          simp only [Option.map_eq_some_iff] at hs
          obtain ⟨ss, hm, rfl⟩ := hs
          simp only [shEq] at hv
          have key := run_stepFs (ρ := ρ) (w := w) d n us vs (fun T s hs us vs r hv => run_shEq n T s hs d (by omega) us vs r hv) fs.toList ss r hc.2 hm hv
          rw [Op.equalIn]
          simp only [Sem.run_bind, run_und hT, Result.andThen_ok, run_program, hc.1, tv, Bool.false_eq_true, if_false]
          have : (forIn fs ((none, ()) : Option Bool × Unit) (stepF d (concs ρ us).toArray (concs ρ vs).toArray)).run P w = .ok (if r = true then (none, ()) else (some false, ())) w := by
            rw [← Array.forIn_toList]; exact key
          unfold stepF at this
          rw [this]
          cases r <;> simp
        · simp at hs

theorem run_guard_agg {op : BinOp} {T : TypeId} {x y : Operand} {p q : Array Value} (hg : P.eqGuardType P.depth T = false) (w : World) :
    (eqGuard op T x y (.agg p) (.agg q)).run P w = .ok () w := by
  cases op <;> first | rfl | (simp [eqGuard, hg])
theorem ok_bin_agg {op : BinOp} {T U : TypeId} {x y : Operand} {p q : List AVal} {s : Sh} {r : Bool} (ho : o.op = .binOp op T x y U) (hop : op = .eql ∨ op = .neq)
    (hc : cmpOf P T x y = .shape s) (hs : s.isSt = true) (hx : evT t x = .agg p) (hy : evT t y = .agg q) (hv : shEq s p q = some r) (hk : K (.bool (if op = .eql then r else !r)) h) (he : EnvR ρ h.length t a) : OpPure P o a ρ h.length (fun v => K v h) := by
  have hx' := (eval_fits he x).1
  have hy' := (eval_fits he y).1
  rw [hx] at hx'
  rw [hy] at hy'
  have hun := cmp_und hc
  have key := fun w => run_shEq (ρ := ρ) (w := w) 20 T s hun.1 10000 (by omega) p q r hv
  have e1 : tv ρ s p = .agg (concs ρ p).toArray := by cases s <;> simp_all [Sh.isSt, tv]
  have e2 : tv ρ s q = .agg (concs ρ q).toArray := by cases s <;> simp_all [Sh.isSt, tv]
  rw [e1, e2] at key
  have key' : ∀ w, (Op.equal T (.agg (concs ρ p).toArray) (.agg (concs ρ q).toArray)).run P w = .ok r w := key
  rcases hop with rfl | rfl
  · refine OpPure.of (v' := .bool r) (fun w => exec_bin ho ?_ ?_) hk (VR.of_one (.inr (by simp [conc]))) trivial
    · rw [hx'.agg, hy'.agg]; exact run_guard_agg hun.2 w
    · rw [hx'.agg, hy'.agg]
      show (do pure (.bool (← Op.equal T _ _)) : Sem Value).run P w = _
      simp [key']
  · refine OpPure.of (v' := .bool (!r)) (fun w => exec_bin ho ?_ ?_) hk (VR.of_one (.inr (by simp [conc]))) trivial
    · rw [hx'.agg, hy'.agg]; exact run_guard_agg hun.2 w
    · rw [hx'.agg, hy'.agg]
      show (do pure (.bool (!(← Op.equal T _ _))) : Sem Value).run P w = _
      simp [key']

theorem ok_bin {op : BinOp} {T U : TypeId} {x y : Operand} (ho : o.op = .binOp op T x y U) (hk : binP op (cmpOf P T x y) (evT t x) (evT t y) fun v => K v h)
    (he : EnvR ρ h.length t a) : OpPure P o a ρ h.length (fun v => K v h) := by
  have hx := (eval_fits he x).1
  have hy := (eval_fits he y).1
  obtain ⟨v, hv, hkk'⟩ := optP_elim hk
  clear hk
  unfold binV at hv
  split at hv
  · rename_i k m k' n hu hw
    rw [hu] at hx; rw [hw] at hy
    split at hv
    · exact ok_bin_ii ho hx.int hy.int (fun w => run_shiftI (.inl rfl) hv) hkk'
    · exact ok_bin_ii ho hx.int hy.int (fun w => run_shiftI (.inr rfl) hv) hkk'
    · rename_i h1 h2
      split at hv
      · rename_i hkk
        subst hkk
        exact ok_bin_ii ho hx.int hy.int (fun w => run_binI ⟨h1, h2⟩ hv) hkk'
      · simp at hv
  · rename_i m n hu hw
    rw [hu] at hx; rw [hw] at hy
    exact ok_bin_ss ho hx.str hy.str hv hkk'
  · rename_i p q hu hw
    split at hv
    · rename_i s hs
      simp only [Option.map_eq_some_iff] at hv
      obtain ⟨r, hr', rfl⟩ := hv
      by_cases hst : s.isSt = true
      · exact ok_bin_agg ho (.inl rfl) hs hst hu hw hr' (by simpa using hkk') he
      · exfalso
        obtain ⟨ha, d, hd⟩ := tshape_agg (cmp_und hs).1
        unfold cmpOf at hs
        rw [hd] at hs
        simp [hst] at ha
        unfold aggT at ha
        rw [hd] at ha
        cases d <;> simp at ha hs <;> (try split at hs) <;> simp_all
    · rename_i s hs
      simp only [Option.map_eq_some_iff] at hv
      obtain ⟨r, hr', rfl⟩ := hv
      by_cases hst : s.isSt = true
      · exact ok_bin_agg ho (.inr rfl) hs hst hu hw hr' (by simpa using hkk') he
      · exfalso
        obtain ⟨ha, d, hd⟩ := tshape_agg (cmp_und hs).1
        unfold cmpOf at hs
        rw [hd] at hs
        simp [hst] at ha
        unfold aggT at ha
        rw [hd] at ha
        cases d <;> simp at ha hs <;> (try split at hs) <;> simp_all
    · simp at hv
  · split at hv
    · simp only [Option.map_eq_some_iff] at hv
      obtain ⟨r, hr', rfl⟩ := hv
      exact ok_bin_nil ho (.inl rfl) hr' (by simpa using hkk') he
    · simp only [Option.map_eq_some_iff] at hv
      obtain ⟨r, hr', rfl⟩ := hv
      exact ok_bin_nil ho (.inr rfl) hr' (by simpa using hkk') he
    · simp at hv
end Go.AI
namespace Go.AI
variable {A : Type} {P : Program} {R : Adts A} {ρ : Pl} {ow : Nat → List Nat} {h : AHeap A} {w : World} {a : Act} {t : Env} {o : Oper} {K : AVal → AHeap A → Prop}

theorem addr_add (b o n : Nat) : (⟨b, o, none⟩ : Addr).add n = ⟨b, o + n, none⟩ := by unfold Addr.add; split <;> simp_all

theorem belows_sub {Z : Fz} {n : Nat} {cs : List AVal} (hb : belows Z n cs) {l : List AVal} (hl : ∀ v ∈ l, v ∈ cs) : belows Z n l :=
  (belows_iff _ n l).2 fun v hv => (belows_iff _ n cs).1 hb v (hl v hv)
theorem belows_take {Z : Fz} {n : Nat} {cs : List AVal} (hb : belows Z n cs) (i j : Nat) : belows Z n ((cs.drop i).take j) :=
  belows_sub hb fun _ hv => List.mem_of_mem_drop (List.mem_of_mem_take hv)

theorem fieldT_elim {T : TypeId} {i : Nat} {f : Field} (hf : fieldT P T i = some f) : ∃ fs, P.underlying T = some (.struct fs) ∧ fs[i]? = some f := by
  unfold fieldT at hf
  split at hf
  · rename_i fs hd; exact ⟨fs, hd, hf⟩
  · simp at hf
theorem info_of_cells {T : TypeId} (hc : P.cellsOf T ≠ 0) : ∃ i, P.info? T = some i := by
  unfold Program.cellsOf at hc
  cases hi : P.info? T with
  | none => rw [hi] at hc; simp at hc
  | some i => exact ⟨i, rfl⟩

theorem ok_fad {T : TypeId} {x : Operand} {i : Nat} {f : Field} (ho : o.op = .fieldAddr T x i) (hf : fieldT P T i = some f) (hc : P.cellsOf f.type ≠ 0)
    (hk : fadP f.offset (evT t x) fun v => K v h) (he : EnvR ρ h.length t a) : OpPure P o a ρ h.length (fun v => K v h) := by
  have hx := eval_fits he x
  obtain ⟨fs, hd, hfs⟩ := fieldT_elim hf
  obtain ⟨ti, hti⟩ := info_of_cells hc
  unfold fadP at hk
  split at hk
  · rename_i b p hb
    rw [hb] at hx
    refine OpPure.of (v' := .pointer (some ⟨(ρ b).blk, (ρ b).base + p + f.offset, none⟩)) ?_ hk (VR.of_one (.inr (by simp [conc, Nat.add_assoc]))) (by simpa [below] using hx.2)
    have hc' : ¬ szOf P f.type = 0 := hc
    simp [execOp, ho, hx.1.ptr, Instr.fieldAt, run_und hd, hfs, Instr.sureAddr, fieldPlace, run_szi hti, hc', addr_add]
  · rename_i b p cs hb
    rw [hb] at hx
    refine OpPure.of (v' := .pointer (some ⟨b, p + f.offset, none⟩)) ?_ hk (VR.of_one (.inr (by simp [conc]))) (by have := hx.2; simp only [below] at this ⊢; exact ⟨this.1.drop _, belows_sub this.2 fun _ hv => List.mem_of_mem_drop hv⟩)
    have hc' : ¬ szOf P f.type = 0 := hc
    simp [execOp, ho, hx.1.fp, Instr.fieldAt, run_und hd, hfs, Instr.sureAddr, fieldPlace, run_szi hti, hc', addr_add]
  · exact hk.elim

theorem ok_cvi {S T : TypeId} {x : Operand} {k k' : IntKind} (ho : o.op = .convert S T x) (hs : P.underlying S = some (.int k')) (hd : P.underlying T = some (.int k))
    (hk : cviP k (evT t x) fun v => K v h) (he : EnvR ρ h.length t a) : OpPure P o a ρ h.length (fun v => K v h) := by
  have hx := eval_fits he x
  unfold cviP at hk
  split at hk
  · rename_i k0 n hb
    rw [hb] at hx
    refine OpPure.of (v' := .int k (k.wrap n)) ?_ hk (VR.of_one (.inr (by simp [conc]))) trivial
    simp [execOp, ho, hx.1.int, convert, run_und hs, run_und hd, Conv.intToInt]
  · exact hk.elim
theorem ok_cvs {S T : TypeId} {x : Operand} {s : List UInt8} (ho : o.op = .convert S T x) (hs : P.underlying S = some .string) (hd : P.underlying T = some .string)
    (hb : evT t x = .str s) (hk : K (.str s) h) (he : EnvR ρ h.length t a) : OpPure P o a ρ h.length (fun v => K v h) := by
  have hx := eval_fits he x
  rw [hb] at hx
  refine OpPure.of (v' := a.eval x) ?_ hk hx.1 trivial
  simp [execOp, ho, hx.1.str, convert, run_und hs, run_und hd]

theorem ok_fld {T : TypeId} {x : Operand} {i : Nat} {f : Field} (ho : o.op = .field T x i) (hf : fieldT P T i = some f)
    (hk : whenT P f.type <| fldP f.offset (P.cellsOf f.type) (aggT P f.type) (evT t x) fun v => K v h) (he : EnvR ρ h.length t a) : OpPure P o a ρ h.length (fun v => K v h) := by
  have hx := eval_fits he x
  obtain ⟨fs, hd, hfs⟩ := fieldT_elim hf
  obtain ⟨⟨d, hfd⟩, hk⟩ := whenT_elim hk
  unfold fldP at hk
  split at hk
  · rename_i cs hb
    rw [hb] at hx
    split at hk
    · rename_i hag
      refine OpPure.of (v' := .agg (concs ρ ((cs.drop f.offset).take (P.cellsOf f.type))).toArray) ?_ hk (VR.of_one (.inr (by simp [conc]))) (by simpa [below] using belows_take hx.2 _ _)
      simp [execOp, ho, hx.1.agg, Instr.field, run_und hd, hfs, asAgg, part, run_agg hfd, hag, run_sz hfd, szOf, concs_take, concs_drop]
    · rename_i hag
      obtain ⟨v, hv, hk⟩ := optP_elim hk
      refine OpPure.of (v' := conc ρ v) ?_ hk (VR.of_eq ρ v) ((belows_iff _ _ cs).1 hx.2 v (List.mem_of_getElem? hv))
      simp at hag
      simp [execOp, ho, hx.1.agg, Instr.field, run_und hd, hfs, asAgg, part, run_agg hfd, hag, concs_get, hv]
  · exact hk.elim

theorem ok_idx {T e : TypeId} {x y : Operand} (ho : o.op = .indexAddr T x y) (hd : P.underlying T = some (.slice e))
    (hk : whenT P e <| idxP (szOf P e) (evT t x) (evT t y) fun v => K v h) (he : EnvR ρ h.length t a) : OpPure P o a ρ h.length (fun v => K v h) := by
  have hx := eval_fits he x
  have hy := eval_fits he y
  obtain ⟨⟨d, hed⟩, hk⟩ := whenT_elim hk
  unfold idxP at hk
  split at hk
  · rename_i b p len cap ex k n hb hn
    rw [hb] at hx
    rw [hn] at hy
    split at hk
    · rename_i hc
      refine OpPure.of (v' := .pointer (some ⟨(ρ b).blk, (ρ b).base + p + n.toNat * szOf P e, none⟩)) ?_ hk (VR.of_one (.inr (by simp [conc, Nat.add_assoc]))) (by simpa [below] using hx.2)
      simp [execOp, ho, hx.1.sl, hy.1.int, Instr.indexAt, asIntOf, run_und hd, hc, run_sz hed, addr_add]
    · exact hk.elim
  · rename_i b p len cap cs k n hb hn
    rw [hb] at hx
    rw [hn] at hy
    split at hk
    · rename_i hc
      refine OpPure.of (v' := .pointer (some ⟨b, p + n.toNat * szOf P e, none⟩)) ?_ hk (VR.of_one (.inr (by simp [conc]))) (by have := hx.2; simp only [below] at this ⊢; exact ⟨this.1.drop _, belows_sub this.2 fun _ hv => List.mem_of_mem_drop hv⟩)
      simp [execOp, ho, hx.1.lst, hy.1.int, Instr.indexAt, asIntOf, run_und hd, hc, run_sz hed, addr_add]
    · exact hk.elim
  · exact hk.elim

theorem ok_ixa {T e : TypeId} {N : Nat} {x y : Operand} (ho : o.op = .indexAddr T x y) (hd : P.underlying T = some (.array N e))
    (hk : whenT P e <| ixaP N (szOf P e) (evT t x) (evT t y) fun v => K v h) (he : EnvR ρ h.length t a) : OpPure P o a ρ h.length (fun v => K v h) := by
  have hx := eval_fits he x
  have hy := eval_fits he y
  obtain ⟨⟨d, hed⟩, hk⟩ := whenT_elim hk
  unfold ixaP at hk
  split at hk
  · rename_i b p k n hb hn
    rw [hb] at hx
    rw [hn] at hy
    split at hk
    · rename_i hc
      refine OpPure.of (v' := .pointer (some ⟨(ρ b).blk, (ρ b).base + p + n.toNat * szOf P e, none⟩)) ?_ hk (VR.of_one (.inr (by simp [conc, Nat.add_assoc]))) (by simpa [below] using hx.2)
      simp [execOp, ho, hx.1.ptr, hy.1.int, Instr.indexAt, asIntOf, run_und hd, hc, run_sz hed, addr_add, Instr.sureAddr]
    · exact hk.elim
  · exact hk.elim

theorem ok_six {T : TypeId} {x y : Operand} (ho : o.op = .index T x y) (hd : P.underlying T = some .string)
    (hk : sixP (evT t x) (evT t y) fun v => K v h) (he : EnvR ρ h.length t a) : OpPure P o a ρ h.length (fun v => K v h) := by
  have hx := eval_fits he x
  have hy := eval_fits he y
  unfold sixP at hk
  split at hk
  · rename_i s k n hb hn
    rw [hb] at hx
    rw [hn] at hy
    split at hk
    · rename_i hc
      split at hk
      · rename_i u hu
        refine OpPure.of (v' := .int .u8 u.toNat) ?_ hk (VR.of_one (.inr (by simp [conc]))) trivial
        have : (⟨s.toArray⟩ : ByteArray)[n.toNat]? = some u := by
          have h1 : n.toNat < s.length := (List.getElem?_eq_some_iff.1 hu).1
          have h2 := (List.getElem?_eq_some_iff.1 hu).2
          rw [getElem?_pos (⟨s.toArray⟩ : ByteArray) n.toNat (by simpa [ByteArray.size] using h1)]
          congr 1
        simp [execOp, ho, hx.1.str, hy.1.int, Instr.index, asIntOf, run_und hd, hc, this]
      · exact hk.elim
    · exact hk.elim
  · exact hk.elim

theorem ok_ixv {T e : TypeId} {N : Nat} {x y : Operand} (ho : o.op = .index T x y) (hd : P.underlying T = some (.array N e))
    (hk : whenT P e <| ixvP N (szOf P e) (aggT P e) (evT t x) (evT t y) fun v => K v h) (he : EnvR ρ h.length t a) : OpPure P o a ρ h.length (fun v => K v h) := by
  have hx := eval_fits he x
  have hy := eval_fits he y
  obtain ⟨⟨d, hed⟩, hk⟩ := whenT_elim hk
  unfold ixvP at hk
  split at hk
  · rename_i cs k n hb hn
    rw [hb] at hx
    rw [hn] at hy
    split at hk
    · rename_i hc
      split at hk
      · rename_i hag
        refine OpPure.of (v' := .agg (concs ρ ((cs.drop (n.toNat * szOf P e)).take (szOf P e))).toArray) ?_ hk (VR.of_one (.inr (by simp [conc]))) (by simpa [below] using belows_take hx.2 _ _)
        simp [execOp, ho, hx.1.agg, hy.1.int, Instr.index, asIntOf, run_und hd, hc, part, run_agg hed, hag, run_sz hed, concs_take, concs_drop]
      · rename_i hag
        obtain ⟨v, hv, hk⟩ := optP_elim hk
        refine OpPure.of (v' := conc ρ v) ?_ hk (VR.of_eq ρ v) ((belows_iff _ _ cs).1 hx.2 v (List.mem_of_getElem? hv))
        simp at hag
        simp [execOp, ho, hx.1.agg, hy.1.int, Instr.index, asIntOf, run_und hd, hc, part, run_agg hed, hag, run_sz hed, concs_get, hv]
    · exact hk.elim
  · exact hk.elim
end Go.AI
namespace Go.AI
variable {A : Type} {P : Program} {R : Adts A} {ρ : Pl} {ow : Nat → List Nat} {h : AHeap A} {w : World} {a : Act} {t : Env} {o : Oper} {K : AVal → AHeap A → Prop}

/-- A bound of a slice expression. -/
theorem bnd_fits (he : EnvR ρ h.length t a) {x : Option Operand} {d : Nat} {n : Int} (hb : bnd d (x.map (evT t)) = some n) :
    (x = none ∧ n = d) ∨ ∃ y k, x = some y ∧ a.eval y = .int k n := by
  cases x with
  | none => simp [bnd] at hb; exact .inl ⟨rfl, hb.symm⟩
  | some y =>
    right
    simp only [Option.map_some] at hb
    have hy := (eval_fits he y).1
    generalize hv : evT t y = v at hb hy
    cases v <;> simp [bnd] at hb
    rename_i k m
    subst hb
    exact ⟨y, k, rfl, hy.int⟩

theorem run_bound {k : IntKind} {n : Int} {y : Nat} {c : BoundsCode} (h0 : 0 ≤ n) (h1 : n ≤ y) (w : World) : (Instr.sliceBound (.int k n) y c).run P w = .ok n.toNat w := by
  simp [Instr.sliceBound, asIntOf, h0, h1]

theorem run_bounds (he : EnvR ρ h.length t a) {isS : Bool} {len cap capR : Nat} {lo hi mx : Option Operand} {l r m : Int}
    (hl : bnd 0 (lo.map (evT t)) = some l) (hh : bnd len (hi.map (evT t)) = some r) (hm : bnd cap (mx.map (evT t)) = some m)
    (h0 : 0 ≤ l) (h1 : l ≤ r) (h2 : r ≤ m) (h3 : m ≤ cap) (hcr : cap ≤ capR) (hmx : mx = none ∨ hi ≠ none) (hx : mx ≠ none → True) (w : World) :
    (Instr.sliceBounds isS len capR (lo.map a.eval) (hi.map a.eval) (mx.map a.eval)).run P w = .ok (l.toNat, r.toNat, if mx = none then capR else m.toNat) w := by
  unfold Instr.sliceBounds
  rcases bnd_fits he hl with ⟨rfl, hl'⟩ | ⟨yl, kl, rfl, hl'⟩ <;> rcases bnd_fits he hh with ⟨rfl, hh'⟩ | ⟨yh, kh, rfl, hh'⟩ <;> rcases bnd_fits he hm with ⟨rfl, hm'⟩ | ⟨ym, km, rfl, hm'⟩
  all_goals simp only [Option.map_none, Option.map_some]
  all_goals first
    | (exfalso; simp at hmx; done)
    | skip
  · subst hl' hh' hm'
    simp
  · subst hl' hm'
    rw [hh']
    simp [run_bound (P := P) (k := kh) (n := r) (y := capR) (by omega) (by omega)]
  · subst hl'
    rw [hh', hm']
    simp [run_bound (P := P) (k := km) (n := m) (y := capR) (by omega) (by omega), run_bound (P := P) (k := kh) (n := r) (y := m.toNat) (by omega) (by omega)]
  · subst hh' hm'
    rw [hl']
    simp [run_bound (P := P) (k := kl) (n := l) (y := len) (by omega) (by omega)]
  · subst hm'
    rw [hl', hh']
    simp [run_bound (P := P) (k := kh) (n := r) (y := capR) (by omega) (by omega), run_bound (P := P) (k := kl) (n := l) (y := r.toNat) (by omega) (by omega)]
  · rw [hl', hh', hm']
    simp [run_bound (P := P) (k := km) (n := m) (y := capR) (by omega) (by omega), run_bound (P := P) (k := kh) (n := r) (y := m.toNat) (by omega) (by omega), run_bound (P := P) (k := kl) (n := l) (y := r.toNat) (by omega) (by omega)]

theorem bsz (s : List UInt8) : (⟨s.toArray⟩ : ByteArray).size = s.length := by simp [ByteArray.size]
theorem bytes_extract (s : List UInt8) (l r : Nat) : (⟨s.toArray⟩ : ByteArray).extract l r = ⟨((s.take r).drop l).toArray⟩ := by
  apply ByteArray.ext
  rw [ByteArray.data_extract]
  apply Array.ext'
  simp [List.drop_take]

theorem ok_sub {T : TypeId} {x : Operand} {lo hi mx : Option Operand} (ho : o.op = .slice T x lo hi mx) (hd : P.underlying T = some .string) (hmx : mx = none)
    (hk : subP (evT t x) (lo.map (evT t)) (hi.map (evT t)) fun v => K v h) (he : EnvR ρ h.length t a) : OpPure P o a ρ h.length (fun v => K v h) := by
  subst hmx
  have hx := eval_fits he x
  unfold subP at hk
  split at hk
  · rename_i s hb
    rw [hb] at hx
    split at hk
    · rename_i l r hl hh
      split at hk
      · rename_i hc
        have hbs := run_bounds (P := P) (isS := false) (len := s.length) (cap := s.length) (capR := s.length) (mx := none) (m := s.length) he hl hh rfl hc.1 hc.2.1 (by omega) (by omega) (by omega) (.inl rfl) (fun _ => trivial)
        refine OpPure.of (v' := .string ⟨((s.take r.toNat).drop l.toNat).toArray⟩) ?_ hk (VR.of_one (.inr (by simp [conc]))) trivial
        simp only [Option.map_none, if_true] at hbs
        simp [execOp, ho, hx.1.str, Instr.sliceAt, Instr.slice, run_und hd, bsz, hbs, bytes_extract]
      · exact hk.elim
    · exact hk.elim
  · exact hk.elim

theorem ok_rsl {T e : TypeId} {x : Operand} {lo hi mx : Option Operand} (ho : o.op = .slice T x lo hi mx) (hd : P.underlying T = some (.slice e)) (hmx : mx = none ∨ hi ≠ none)
    (hk : whenT P e <| rslP (szOf P e) (evT t x) (lo.map (evT t)) (hi.map (evT t)) (mx.map (evT t)) fun v => K v h) (he : EnvR ρ h.length t a) : OpPure P o a ρ h.length (fun v => K v h) := by
  have hx := eval_fits he x
  obtain ⟨⟨d, hed⟩, hk2⟩ := whenT_elim hk
  clear hk
  have hk := hk2
  clear hk2
  unfold rslP at hk
  split at hk
  · rename_i hb
    rw [hb] at hx
    split at hk
    · rename_i l r m hl hh hm
      split at hk
      · rename_i hc
        obtain ⟨rfl, rfl, rfl⟩ := hc
        have hbs := run_bounds (P := P) (isS := true) (len := 0) (cap := 0) (capR := 0) he hl hh hm (by omega) (by omega) (by omega) (by omega) (by omega) hmx (fun _ => trivial)
        have hbs' : ∀ w, (Instr.sliceBounds true 0 0 (lo.map a.eval) (hi.map a.eval) (mx.map a.eval)).run P w = .ok (0, 0, 0) w := by intro w; rw [hbs]; simp
        refine OpPure.of (v' := .slice none 0 0) ?_ hk (VR.of_one (.inr (by simp [conc]))) trivial
        simp [execOp, ho, hx.1.nils, Instr.sliceAt, Instr.slice, run_und hd, hbs', run_sz hed]
      · exact hk.elim
    · exact hk.elim
  · rename_i b p sh hb
    rw [hb] at hx
    split at hk
    · rename_i l r hl hh hm
      have hm' : mx = none := by cases mx with | none => rfl | some y => simp at hm
      subst hm'
      split at hk
      · rename_i hc
        obtain ⟨rfl, rfl⟩ := hc
        have hbs := run_bounds (P := P) (isS := true) (len := 0) (cap := (ρ b).spare) (capR := (ρ b).spare) (mx := none) (m := (ρ b).spare) he hl hh rfl (by omega) (by omega) (by omega) (by omega) (by omega) (.inl rfl) (fun _ => trivial)
        simp only [Option.map_none, if_true, Int.toNat_zero] at hbs
        refine OpPure.of (v' := a.eval x) ?_ hk hx.1 hx.2
        rw [hx.1.empt]
        simp [execOp, ho, hx.1.empt, Instr.sliceAt, Instr.slice, run_und hd, hbs, run_sz hed, addr_add]
      · exact hk.elim
    · exact hk.elim
  · rename_i b p len cap ex hb
    rw [hb] at hx
    split at hk
    · rename_i l r m hl hh hm
      split at hk
      · rename_i hc
        obtain ⟨h0, h1, h2, h3⟩ := hc
        have hbs := run_bounds (P := P) (isS := true) (len := len) (cap := cap) (capR := if ex = true then cap else cap + (ρ b).spare) he hl hh hm h0 h1 h2 h3 (by split <;> omega) hmx (fun _ => trivial)
        have hmv : mx = none → m = cap := by rintro rfl; simpa [bnd] using hm.symm
        obtain ⟨M, hMd⟩ : ∃ M, M = (if mx = none then (if ex = true then cap else cap + (ρ b).spare) else m.toNat) := ⟨_, rfl⟩
        rw [← hMd] at hbs
        have hM1 : mx = none → M = if ex = true then cap else cap + (ρ b).spare := fun e => by rw [hMd, if_pos e]
        have hM2 : mx ≠ none → M = m.toNat := fun e => by rw [hMd, if_neg e]
        have hge : m.toNat ≤ M := by
          by_cases hmn : mx = none
          · rw [hM1 hmn]; have := hmv hmn; split <;> omega
          · rw [hM2 hmn]; omega
        have hsome : mx ≠ none → (mx.map (evT t)).isSome = true := by cases mx <;> simp
        clear hMd
        have hrun : ∀ w, (execOp a.eval o).run P w = .ok (.value (Value.slice (some (if M = l.toNat then ⟨(ρ b).blk, (ρ b).base + p, none⟩ else ⟨(ρ b).blk, (ρ b).base + p + l.toNat * szOf P e, none⟩)) (r.toNat - l.toNat) (M - l.toNat))) w := by
          intro w
          simp only [execOp, ho, hx.1.sl, Instr.sliceAt, Sem.run_bind, run_und hd, Result.andThen_ok, Instr.slice, hbs, run_sz hed, Sem.run_pure]
          congr 2
          split <;> simp [addr_add]
        split at hk
        · rename_i hlm
          refine OpPure.of hrun hk (VR.of_one (.inr ?_)) (by simpa [below] using hx.2)
          have hcase : (if M = l.toNat then (⟨(ρ b).blk, (ρ b).base + p, none⟩ : Addr) else ⟨(ρ b).blk, (ρ b).base + p + l.toNat * szOf P e, none⟩) = ⟨(ρ b).blk, (ρ b).base + p + l.toNat * szOf P e, none⟩ := by
            split
            · rename_i heq
              rcases hlm with hlt | h00
              · omega
              · subst h00; simp
            · rfl
          rw [hcase]
          simp only [conc, Nat.add_assoc]
          congr 1
          · omega
          · by_cases hmn : mx = none
            · have h5 := hM1 hmn
              have h6 := hmv hmn
              subst hmn
              simp only [Option.map_none, Option.isSome_none, Bool.or_false]
              rw [h5]
              split <;> omega
            · have h5 := hM2 hmn
              simp only [hsome hmn, Bool.or_true, if_true]
              omega
        · rename_i hlm
          have hl1 : l = m := by omega
          subst hl1
          split at hk
          · rename_i hex
            refine OpPure.of hrun hk (VR.of_one (.inr ?_)) (by simpa [below] using hx.2)
            have hMl : M = l.toNat := by
              by_cases hmn : mx = none
              · have h5 := hM1 hmn
                have h6 := hmv hmn
                subst hmn
                simp only [Option.map_none, Option.isSome_none, Bool.or_false] at hex
                rw [if_pos hex] at h5
                omega
              · exact hM2 hmn
            rw [if_pos hMl]
            simp only [conc, if_true]
            congr 1 <;> omega
          · rename_i hex
            refine OpPure.of hrun hk (VR.of_one (.inr ?_)) (by simpa [below] using hx.2)
            have hmn : mx = none := by
              by_cases hmn : mx = none
              · exact hmn
              · rw [hsome hmn] at hex; simp at hex
            have h5 := hM1 hmn
            have h6 := hmv hmn
            subst hmn
            simp only [Option.map_none, Option.isSome_none, Bool.or_false, Bool.not_eq_true] at hex
            rw [hex] at h5
            simp only [Bool.false_eq_true, if_false] at h5
            simp only [conc]
            have h7 : l.toNat = cap := by omega
            congr 1
            · congr 1
              by_cases hs : (ρ b).spare = 0
              · rw [if_pos (by omega), if_pos hs]
              · rw [if_neg (by omega), if_neg hs]; simp [Nat.add_assoc]
            · omega
            · omega
      · exact hk.elim
    · exact hk.elim
  · rename_i b p len cap cs hb
    rw [hb] at hx
    split at hk
    · rename_i l r m hl hh hm
      split at hk
      · rename_i hc
        obtain ⟨h0, h1, h2, h3, h4⟩ := hc
        have hbs := run_bounds (P := P) (isS := true) (len := len) (cap := cap) (capR := cap) he hl hh hm h0 h1 h2 h3 (Nat.le_refl _) hmx (fun _ => trivial)
        have hM : (if mx = none then cap else m.toNat) = m.toNat := by
          split
          · rename_i hmn; subst hmn; simp [bnd] at hm; omega
          · rfl
        rw [hM] at hbs
        have hb2 := hx.2
        simp only [below] at hb2
        refine OpPure.of (v' := .slice (some ⟨b, if l < m ∨ l = 0 then p + l.toNat * szOf P e else p, none⟩) (r - l).toNat (m - l).toNat) ?_ hk (VR.of_one (.inr (by simp [conc]))) ?_
        · intro w
          simp only [execOp, ho, hx.1.lst, Instr.sliceAt, Sem.run_bind, run_und hd, Result.andThen_ok, Instr.slice, hbs, run_sz hed, Sem.run_pure]
          congr 2
          have e1 : r.toNat - l.toNat = (r - l).toNat := by omega
          have e2 : m.toNat - l.toNat = (m - l).toNat := by omega
          rw [e1, e2]
          by_cases hlm : l < m ∨ l = 0
          · rw [if_pos hlm]
            split
            · rename_i heq
              rcases hlm with h5 | h5
              · omega
              · subst h5; simp
            · simp [addr_add]
          · rw [if_neg hlm]
            have : m.toNat = l.toNat := by omega
            simp [this]
        · simp only [below]
          refine ⟨?_, belows_sub hb2.2 fun _ hv => List.mem_of_mem_take (List.mem_of_mem_drop hv)⟩
          split
          · exact (hb2.1.take _).drop _
          · rename_i hlm
            have hz : (cs.take (r.toNat * szOf P e)).drop (l.toNat * szOf P e) = [] := by
              apply List.drop_eq_nil_of_le
              rw [List.length_take]
              have : r.toNat = l.toNat := by omega
              rw [this]; omega
            rw [hz]
            obtain ⟨c, h5, _⟩ := hb2.1
            exact ⟨c, h5, by simp⟩
      · exact hk.elim
    · exact hk.elim
  · exact hk.elim

theorem exec_len {T : TypeId} {x : Operand} {c : Call} {v : Value} (ho : o.op = .call c) (hcal : c.callee = .builtin .len) (hat : c.argTypes.toList = [T]) (hx1 : c.args.toList = [x])
    (hv : (Builtin.len_ #[T] o.type #[a.eval x]).run P w = .ok v w) : (execOp a.eval o).run P w = .ok (.value v) w := by
  have hat' : c.argTypes = #[T] := Array.toList_inj.1 (by simpa using hat)
  have hx' : c.args = #[x] := Array.toList_inj.1 (by simpa using hx1)
  simp [execOp, ho, resolve, hcal, hat', hx', invoke, builtin, hv]
theorem ok_lns {T : TypeId} {x : Operand} {c : Call} (ho : o.op = .call c) (hcal : c.callee = .builtin .len) (hat : c.argTypes.toList = [T]) (hx1 : c.args.toList = [x])
    (hd : P.underlying T = some .string) (hk : lnsP (evT t x) fun v => K v h) (he : EnvR ρ h.length t a) : OpPure P o a ρ h.length (fun v => K v h) := by
  have hx := eval_fits he x
  unfold lnsP at hk
  split at hk
  · rename_i s hb
    rw [hb] at hx
    refine OpPure.of (fun w => exec_len ho hcal hat hx1 (v := .int .i64 s.length) ?_) hk (VR.of_one (.inr (by simp [conc]))) trivial
    simp [Builtin.len_, run_und hd, hx.1.str, goInt, bsz]
  · exact hk.elim
theorem ok_len {T e : TypeId} {x : Operand} {c : Call} (ho : o.op = .call c) (hcal : c.callee = .builtin .len) (hat : c.argTypes.toList = [T]) (hx1 : c.args.toList = [x])
    (hd : P.underlying T = some (.slice e)) (hk : lenP (evT t x) fun v => K v h) (he : EnvR ρ h.length t a) : OpPure P o a ρ h.length (fun v => K v h) := by
  have hx := eval_fits he x
  unfold lenP at hk
  split at hk
  · rename_i hb
    rw [hb] at hx
    refine OpPure.of (fun w => exec_len ho hcal hat hx1 (v := .int .i64 0) ?_) hk (VR.of_one (.inr (by simp [conc]))) trivial
    simp [Builtin.len_, run_und hd, hx.1.nils, goInt]
  · rename_i b p n cap ex hb
    rw [hb] at hx
    refine OpPure.of (fun w => exec_len ho hcal hat hx1 (v := .int .i64 n) ?_) hk (VR.of_one (.inr (by simp [conc]))) trivial
    simp [Builtin.len_, run_und hd, hx.1.sl, goInt]
  · rename_i b p sh hb
    rw [hb] at hx
    refine OpPure.of (fun w => exec_len ho hcal hat hx1 (v := .int .i64 0) ?_) hk (VR.of_one (.inr (by simp [conc]))) trivial
    simp [Builtin.len_, run_und hd, hx.1.empt, goInt]
  · rename_i b p n cap cs hb
    rw [hb] at hx
    refine OpPure.of (fun w => exec_len ho hcal hat hx1 (v := .int .i64 n) ?_) hk (VR.of_one (.inr (by simp [conc]))) trivial
    simp [Builtin.len_, run_und hd, hx.1.lst, goInt]
  · rename_i x hb
    rw [hb] at hx
    refine OpPure.of (fun w => exec_len ho hcal hat hx1 (v := .int .i64 0) ?_) hk (VR.of_one (.inr (by simp [conc]))) trivial
    simp [Builtin.len_, run_und hd, hx.1.odd, goInt]
  · exact hk.elim
end Go.AI
namespace Go.AI
variable {A : Type} {P : Program} {R : Adts A} {ρ : Pl} {ow : Nat → List Nat} {h : AHeap A} {w : World} {a : Act} {t : Env} {o : Oper} {K : AVal → AHeap A → Prop}

theorem VRs_cons {v : AVal} {r : List AVal} {l : List Value} (hl : VRs ρ (v :: r) l) : ∃ x l', l = x :: l' ∧ VR ρ v x ∧ VRs ρ r l' := by
  obtain ⟨hlen, hg⟩ := hl
  cases l with
  | nil => simp at hlen
  | cons x l' =>
    refine ⟨x, l', rfl, ?_, by simpa using hlen, fun i y hi => ?_⟩
    · obtain ⟨y, hy, hf⟩ := hg 0 v (by simp); simp at hy; subst hy; exact hf
    · obtain ⟨z, hz, hf⟩ := hg (i + 1) y (by simpa using hi); exact ⟨z, by simpa using hz, hf⟩
theorem VRs_nil {l : List Value} (hl : VRs ρ [] l) : l = [] := by simpa using hl.1

theorem exec_builtin {c : Call} {b : Builtin} {v : Value} {f : Array TypeId → TypeId → Array Value → Sem Value} (ho : o.op = .call c) (hcal : c.callee = .builtin b)
    (hb : ∀ ts T cs xs, builtin b ts T cs xs = (do pure (.value (← f ts T xs)))) {w' : World}
    (hv : (f c.argTypes o.type (c.args.map a.eval)).run P w = .ok v w') : (execOp a.eval o).run P w = .ok (.value v) w' := by
  simp [execOp, ho, resolve, hcal, invoke, hb, hv]

theorem ok_min {c : Call} (ho : o.op = .call c) (hcal : c.callee = .builtin .min) (hk : minP (args (evT t) c.args.toList) fun v => K v h) (he : EnvR ρ h.length t a) : OpPure P o a ρ h.length (fun v => K v h) := by
  have hx := args_fits he c.args.toList
  have hmap : (c.args.map a.eval).toList = c.args.toList.map a.eval := by simp
  unfold minP at hk
  split at hk
  · rename_i _ _ k x k' y hb
    rw [hb] at hx
    obtain ⟨u, l, hl, hu, h2⟩ := VRs_cons hx.1
    obtain ⟨u', l', rfl, hu', h3⟩ := VRs_cons h2
    obtain rfl := VRs_nil h3
    refine OpPure.of (fun w => exec_builtin ho hcal (f := fun ts T xs => Builtin.min_ ts T xs) (fun _ _ _ _ => rfl) (v := .int k (if y < x then y else x)) ?_) hk (VR.of_one (.inr (by simp [conc]))) trivial
    simp [Builtin.min_, hl, hu.int, hu'.int, Builtin.min2]
  · rename_i _ _ k x k' y k'' z hb
    rw [hb] at hx
    obtain ⟨u, l, hl, hu, h2⟩ := VRs_cons hx.1
    obtain ⟨u', l', rfl, hu', h3⟩ := VRs_cons h2
    obtain ⟨u'', l', rfl, hu'', h3⟩ := VRs_cons h3
    obtain rfl := VRs_nil h3
    refine OpPure.of (fun w => exec_builtin ho hcal (f := fun ts T xs => Builtin.min_ ts T xs) (fun _ _ _ _ => rfl) (v := .int k (if z < (if y < x then y else x) then z else (if y < x then y else x))) ?_) hk (VR.of_one (.inr (by simp [conc]))) trivial
    simp [Builtin.min_, hl, hu.int, hu'.int, hu''.int, Builtin.min2]
  · exact hk.elim
theorem ok_max {c : Call} (ho : o.op = .call c) (hcal : c.callee = .builtin .max) (hk : maxP (args (evT t) c.args.toList) fun v => K v h) (he : EnvR ρ h.length t a) : OpPure P o a ρ h.length (fun v => K v h) := by
  have hx := args_fits he c.args.toList
  unfold maxP at hk
  split at hk
  · rename_i _ _ k x k' y hb
    rw [hb] at hx
    obtain ⟨u, l, hl, hu, h2⟩ := VRs_cons hx.1
    obtain ⟨u', l', rfl, hu', h3⟩ := VRs_cons h2
    obtain rfl := VRs_nil h3
    refine OpPure.of (fun w => exec_builtin ho hcal (f := fun ts T xs => Builtin.max_ ts T xs) (fun _ _ _ _ => rfl) (v := .int k (if y > x then y else x)) ?_) hk (VR.of_one (.inr (by simp [conc]))) trivial
    simp [Builtin.max_, hl, hu.int, hu'.int, Builtin.max2]
  · exact hk.elim

/-! Structs that are built. -/
theorem over_get (cs : List AVal) (o : Nat) (new : List AVal) (i : Nat) (ho : o + new.length ≤ cs.length) :
    (over cs o new)[i]? = if o ≤ i ∧ i < o + new.length then new[i - o]? else cs[i]? := by
  unfold over
  by_cases h1 : i < o
  · rw [List.append_assoc, List.getElem?_append_left (by simp; omega), List.getElem?_take, if_pos h1, if_neg (by omega)]
  · by_cases h2 : i < o + new.length
    · rw [List.getElem?_append_left (by simp; omega), List.getElem?_append_right (by simp; omega), if_pos ⟨by omega, h2⟩]
      congr 1
      simp; omega
    · rw [List.getElem?_append_right (by simp; omega), List.getElem?_drop, if_neg (by omega)]
      congr 1
      simp; omega
theorem over_length (cs : List AVal) (o : Nat) (new : List AVal) (ho : o + new.length ≤ cs.length) : (over cs o new).length = cs.length := by
  simp [over]; omega
theorem over_below {Z : Fz} {n : Nat} {cs new : List AVal} (o : Nat) (h1 : belows Z n cs) (h2 : belows Z n new) : belows Z n (over cs o new) := by
  rw [belows_iff] at *
  intro v hv
  simp only [over, List.mem_append] at hv
  rcases hv with (hv | hv) | hv
  · exact h1 v (List.mem_of_mem_take hv)
  · exact h2 v hv
  · exact h1 v (List.mem_of_mem_drop hv)

theorem fold_over : ∀ (vs : List Value) (cs : Array Value) (k j : Nat),
    (vs.zipIdx j).foldl (fun cs (c, i) => cs.setIfInBounds (k + i) c) cs = overA cs (k + j) vs
  | [], _, _, _ => rfl
  | v :: r, cs, k, j => by
    simp only [List.zipIdx_cons, List.foldl_cons, overA]
    rw [fold_over r _ k (j + 1)]
    rfl

/-- The model's fill and the abstract one. -/
theorem fill_fits (place : Nat → Option (Nat × Nat)) (mk : Nat × Operand → Option (Nat × Nat × AVal)) (he : EnvR ρ h.length t a) :
    ∀ (ps : List (Nat × Operand)) (l : List (Nat × Nat × AVal)) (cs r : List AVal),
      (∀ (i : Nat) (p : Nat × Operand), ps[i]? = some p → ∃ q, place p.1 = some q ∧ l[i]? = some (q.1, q.2, evT t p.2)) → l.length = ps.length →
      fillA cs l = some r → belows ρ.Z h.length cs →
      Instr.fill place (concs ρ cs).toArray (ps.map fun (i, x) => (i, a.eval x)) = some (concs ρ r).toArray ∧ belows ρ.Z h.length r ∧ r.length = cs.length
  | [], l, cs, r, _, hlen, hf, hb => by
    have : l = [] := by simpa using hlen
    subst this
    simp [fillA] at hf
    subst hf
    exact ⟨rfl, hb, rfl⟩
  | p :: ps, l, cs, r, hp, hlen, hf, hb => by
    obtain ⟨q, hq, hl0⟩ := hp 0 p (by simp)
    cases l with
    | nil => simp at hlen
    | cons x l =>
      simp at hl0
      subst hl0
      simp only [fillA] at hf
      split at hf
      · rename_i hc
        obtain ⟨hc1, hc2, hc3⟩ := hc
        have hx := eval_fits he p.2
        obtain ⟨hcells, hone⟩ := cs_fits hx.1 hc3
        have ih := fill_fits place mk he ps l (over cs q.1 (evT t p.2).cs) r (fun i p' hi => by
          obtain ⟨q', h1, h2⟩ := hp (i + 1) p' (by simpa using hi)
          exact ⟨q', h1, by simpa using h2⟩) (by simpa using hlen) hf (over_below _ hb (cs_below hx.2))
        refine ⟨?_, ih.2.1, by rw [ih.2.2, over_length _ _ _ (by rw [hc1]; exact hc2)]⟩
        simp only [List.map_cons, Instr.fill, hq, hcells]
        rw [if_neg (by simp [concs_length, hc1]; exact hc2)]
        rw [← ih.1]
        congr 1
        have hz : (concs ρ (evT t p.2).cs).toArray.zipIdx = ((concs ρ (evT t p.2).cs).zipIdx 0).toArray := by
          apply Array.ext'
          simp
        rw [hz]
        rw [List.foldl_toArray']
        · rw [fold_over _ _ q.1 0]
          apply Array.ext_getElem?
          intro i
          rw [overA_get _ _ _ _ (by simp [concs_length, hc1]; exact hc2)]
          simp only [List.getElem?_toArray, concs_get, concs_length, Nat.add_zero]
          rw [over_get _ _ _ _ (by rw [hc1]; exact hc2)]
          split <;> simp
        · simp
      · simp at hf
end Go.AI
namespace Go.AI
variable {A : Type} {P : Program} {R : Adts A} {ρ : Pl} {ow : Nat → List Nat} {h : AHeap A} {w : World} {a : Act} {t : Env} {o : Oper} {K : AVal → AHeap A → Prop}

theorem whenP_elim {b : Bool} {p : Prop} (h : whenP b p) : b = true ∧ p := by
  cases b with
  | true => exact ⟨rfl, h⟩
  | false => exact h.elim

theorem zeroC_elim {T : TypeId} {z : List AVal} (hz : zeroC P T = some z) : ∃ i v, P.info? T = some i ∧ i.zero = some v ∧ z = v.cells.toList.map abs0 ∧ z.all AVal.scalar = true := by
  unfold zeroC at hz
  cases hi : P.info? T with
  | none => rw [hi] at hz; simp at hz
  | some i =>
    rw [hi] at hz
    simp only [Option.bind_some] at hz
    cases hv : i.zero with
    | none => rw [hv] at hz; simp at hz
    | some v =>
      rw [hv] at hz
      simp only [Option.bind_some, scalars] at hz
      split at hz
      · rename_i hs
        simp only [Option.some.injEq] at hz
        exact ⟨i, v, rfl, hv, hz.symm, by rw [← hz]; exact hs⟩
      · simp at hz
theorem zero_cells (ρ : Pl) {v : Value} (hs : (v.cells.toList.map abs0).all AVal.scalar = true) : v.cells = (concs ρ (v.cells.toList.map abs0)).toArray := by
  apply Array.ext'
  rw [concs_map, List.map_map]
  simp only []
  conv => lhs; rw [← List.map_id v.cells.toList]
  apply List.map_congr_left
  intro x hx
  simp only [id, Function.comp]
  exact abs0_scalar ρ (List.all_eq_true.1 hs _ (List.mem_map_of_mem hx))
theorem run_zeroV {T : TypeId} {z : List AVal} (ρ : Pl) (hz : zeroC P T = some z) (w : World) : ∃ v, (zeroValue T).run P w = .ok v w ∧ v.cells = (concs ρ z).toArray := by
  obtain ⟨i, v, hi, hv, rfl, hs⟩ := zeroC_elim hz
  exact ⟨v, by simp [zeroValue, run_ti hi, hv], zero_cells ρ hs⟩
theorem zero_below {Z : Fz} (n : Nat) {T : TypeId} {z : List AVal} (hz : zeroC P T = some z) : belows Z n z := by
  obtain ⟨i, v, hi, hv, rfl, hs⟩ := zeroC_elim hz
  rw [belows_iff]
  intro x hx
  obtain ⟨y, _, rfl⟩ := List.mem_map.1 hx
  exact abs0_below n y

theorem run_places : ∀ (l : List Field), (l.all fun f => (P.info? f.type).isSome) = true →
    (l.mapM fun f => (do pure (f.offset, ← sizeOf f.type) : Sem (Nat × Nat))).run P w = .ok (l.map fun f => (f.offset, P.cellsOf f.type)) w
  | [], _ => by simp
  | f :: l, hl => by
    simp only [List.all_cons, Bool.and_eq_true] at hl
    obtain ⟨i, hi⟩ := Option.isSome_iff_exists.1 hl.1
    have := run_places l hl.2
    simp only [List.mapM_cons, Sem.run_bind, run_szi hi, Result.andThen_ok, Sem.run_pure, this, List.map_cons, szOf]

theorem partsOf_fits {T : TypeId} {fs : Array Field} (hd : P.underlying T = some (.struct fs)) : ∀ (ps : List (Nat × Operand)) (l : List (Nat × Nat × AVal)), partsOf P T (evT t) ps = some l →
    l.length = ps.length ∧ ∀ (i : Nat) (p : Nat × Operand), ps[i]? = some p → ∃ q, (fs.map fun f => (f.offset, P.cellsOf f.type))[p.1]? = some q ∧ l[i]? = some (q.1, q.2, evT t p.2)
  | [], l, hl => by simp [partsOf] at hl; subst hl; exact ⟨rfl, by simp⟩
  | (j, x) :: ps, l, hl => by
    simp only [partsOf] at hl
    split at hl
    · rename_i f l' hf hl'
      simp only [Option.some.injEq] at hl
      subst hl
      have ih := partsOf_fits hd ps l' hl'
      refine ⟨by simp [ih.1], fun i p hi => ?_⟩
      cases i with
      | zero =>
        simp at hi; subst hi
        refine ⟨(f.offset, P.cellsOf f.type), ?_, by simp⟩
        obtain ⟨fs', hd', hf'⟩ := fieldT_elim hf
        rw [hd] at hd'
        simp only [Option.some.injEq, TypeDesc.struct.injEq] at hd'
        subst hd'
        simp [hf']
      | succ i => simpa using ih.2 i p (by simpa using hi)
    · simp at hl

theorem ok_bld {T : TypeId} {ps : Array (Nat × Operand)} {z : List AVal} {l : List (Nat × Nat × AVal)} (ho : o.op = .build T ps) (hz : zeroC P T = some z) (hl : partsOf P T (evT t) ps.toList = some l)
    (hk : whenP (fieldsOk P T) <| bldP z l fun v => K v h) (he : EnvR ρ h.length t a) : OpPure P o a ρ h.length (fun v => K v h) := by
  obtain ⟨hfo, hk⟩ := whenP_elim hk
  unfold fieldsOk at hfo
  split at hfo
  · rename_i fs hd
    have hp := partsOf_fits (t := t) hd ps.toList l hl
    unfold bldP at hk
    split at hk
    · rename_i r hf
      have hfill := fill_fits ((fs.map fun f => (f.offset, P.cellsOf f.type))[·]?) (fun _ => none) he ps.toList l z r hp.2 hp.1 hf (zero_below _ hz)
      refine OpPure.of (v' := .agg (concs ρ r).toArray) ?_ hk (VR.of_one (.inr (by simp [conc]))) (by simpa [below] using hfill.2.1)
      intro w
      obtain ⟨v0, hv0, hv0c⟩ := run_zeroV ρ hz w
      have hpl : (fs.mapM fun f => (do pure (f.offset, ← sizeOf f.type) : Sem (Nat × Nat))).run P w = .ok (fs.map fun f => (f.offset, P.cellsOf f.type)) w := by
        rw [Array.mapM_eq_mapM_toList, Sem.run_map, run_places fs.toList hfo]
        simp only [Result.andThen_ok]
        congr 1
        apply Array.ext'
        simp
      simp only [execOp, ho, Instr.build, Sem.run_bind, hv0, Result.andThen_ok, run_und hd, hpl, hv0c]
      have : (Array.map (fun x => match x with | (i, x) => (i, a.eval x)) ps).toList = ps.toList.map fun (i, x) => (i, a.eval x) := by simp
      rw [this, hfill.1]
      rfl
    · exact hk.elim
  · simp at hfo
end Go.AI
namespace Go.AI
variable {A : Type} {P : Program} {R : Adts A} {ρ : Pl} {ow : Nat → List Nat} {h : AHeap A} {w : World} {a : Act} {t : Env} {o : Oper} {K : AVal → AHeap A → Prop}

theorem Fr.snoc {w' : World} {l : Loc} {bs : List Nat} {x : AObj A} (r : Rep P R ρ ow h w) (h1 : w'.os = w.os) (h2 : w'.tape = w.tape) (h3 : w'.output = w.output) (h4 : w.heap.size ≤ w'.heap.size)
    (h5 : ∀ b, b < w.heap.size → w'.heap[b]? = w.heap[b]?) (h6 : ∀ b ∈ bs, w.heap.size ≤ b) : Fr ρ ow h w (updP ρ h.length l) (upd ow h.length bs) (h ++ [x]) w' where
  os := h1
  tape := h2
  output := h3
  size := h4
  block b hb _ := h5 b hb
  own i b hb := by
    by_cases hi : i = h.length
    · subst hi; rw [upd_same] at hb; exact .inr (h6 b hb)
    · rw [upd_ne _ _ hi] at hb; exact .inl ⟨i, hb⟩
  agree i hi := (updP_ne _ _ (by omega)).symm
  len := by simp
  le := Fz.le_refl _
  fz _ _ h := .inl h

theorem push_get (w : World) (x : Obj) (b : Nat) (hb : b < w.heap.size) : (w.heap.push x)[b]? = w.heap[b]? := by
  rw [Array.getElem?_push, if_neg (by omega)]

/-- A new row of cells. -/
theorem Rep.new (r : Rep P R ρ ow h w) (e : TypeId) (cs : List AVal) (hb : belows ρ.Z h.length cs) (c : Array Value) (fz : Nat × Nat) (spare : Nat) (hc : cellsAre ρ 0 c cs)
    (hsz : cs.length + spare * P.cellsOf e ≤ c.size) (hfz : unfrozenE P e fz c.size) (w' : World) (hw : w'.heap = w.heap.push (.cells c e fz)) (h1 : w'.os = w.os) (h2 : w'.tape = w.tape) (h3 : w'.output = w.output) :
    Rep P R (updP ρ h.length ⟨w.heap.size, 0, spare⟩) (upd ow h.length [w.heap.size]) (h ++ [.cells e cs]) w' ∧ Fr ρ ow h w (updP ρ h.length ⟨w.heap.size, 0, spare⟩) (upd ow h.length [w.heap.size]) (h ++ [.cells e cs]) w' := by
  refine ⟨r.snoc (by simp [hw]) _ _ ?_ ?_ _ ?_ ?_, Fr.snoc r h1 h2 h3 (by simp [hw]) (fun b hb => by rw [hw, push_get _ _ _ hb]) (by simp)⟩
  · intro b hb _; rw [hw, push_get _ _ _ hb]
  · intro b hb
    simp at hb; subst hb
    refine ⟨by simp [hw], fun j hj => ?_, r.znew (Nat.le_refl _)⟩
    have := r.lt j _ hj; omega
  · exact belows_mono (by omega) cs hb
  · refine ⟨rfl, c, fz, by simp [hw], by simpa using hsz, ?_, hfz⟩
    exact hc.congr (n := h.length) (fun b hb => (updP_ne _ _ (by omega)).symm) hb

theorem concs_are (ρ : Pl) (cs : List AVal) : cellsAre ρ 0 (concs ρ cs).toArray cs := by
  intro k v hv; simp [concs_get, hv]

theorem conc_upd {Z : Fz} {n : Nat} {v : AVal} (hb : below Z n v) (l : Loc) : conc (updP ρ n l) v = conc ρ v :=
  conc_congr (n := n) (fun b hb => updP_ne _ _ (by omega)) v hb

theorem ok_alloc {e : TypeId} {cs : List AVal} (ho : o.op = .alloc e) (hz : zeroC P e = some cs) (hk : newP e cs h K) (hr : Rep P R ρ ow h w) : OpOk P R o a ρ ow h w K := by
  obtain ⟨v0, hv0, hv0c⟩ := run_zeroV ρ hz w
  have hb := zero_below (Z := ρ.Z) h.length hz
  obtain ⟨h1, h2⟩ := hr.new e cs hb (concs ρ cs).toArray (0, 0) 0 (concs_are ρ cs) (by simp [concs_length]) ⟨.inr (by simp), .inl (by simp)⟩ { w with heap := w.heap.push (.cells (concs ρ cs).toArray e) } rfl rfl rfl rfl
  refine OpOk.value' (v' := .pointer (some ⟨w.heap.size, 0, none⟩)) ?_ hk (VR.of_one (.inr (by simp [conc, updP_same]))) (by simp [below]) h1 h2
  simp [execOp, ho, Instr.alloc, hv0, newVar, newRow, hv0c]

theorem ok_box {e : TypeId} {x : Operand} (ho : o.op = .box e x) (hk : boxP e (szOf P e) (evT t x) h K) (hr : Rep P R ρ ow h w) (he : EnvR ρ h.length t a) : OpOk P R o a ρ ow h w K := by
  have hx := eval_fits he x
  unfold boxP at hk
  split at hk
  · rename_i hc
    obtain ⟨hcells, _⟩ := cs_fits hx.1 hc.2
    obtain ⟨h1, h2⟩ := hr.new e (evT t x).cs (cs_below hx.2) (concs ρ (evT t x).cs).toArray (0, 0) 0 (concs_are ρ _) (by simp [concs_length]) ⟨.inr (by simp), .inl (by simp)⟩ { w with heap := w.heap.push (.cells (concs ρ (evT t x).cs).toArray e) } rfl rfl rfl rfl
    refine OpOk.value' (v' := .pointer (some ⟨w.heap.size, 0, none⟩)) ?_ hk (VR.of_one (.inr (by simp [conc, updP_same]))) (by simp [below]) h1 h2
    simp [execOp, ho, Instr.box, newVar, newRow, hcells]
  · exact hk.elim

/-! Reading. -/
theorem cellsAt_world (hr : Rep P R ρ ow h w) {b : Nat} {cs : List AVal} (hc : cellsAt h b = some cs) :
    (∃ c e fz, w.heap[(ρ b).blk]? = some (.cells c e fz) ∧ cellsAre ρ (ρ b).base c cs) ∧ belows ρ.Z h.length cs := by
  unfold cellsAt at hc
  cases hb : h[b]? with
  | none => rw [hb] at hc; simp at hc
  | some x =>
    rw [hb] at hc
    simp only [Option.bind_some] at hc
    have ho := hr.obj b x hb
    have hw := hr.wf b x hb
    cases x with
    | cells e cs' =>
      simp [AObj.read] at hc; subst hc
      obtain ⟨_, c, fz, h1, _, h3, _⟩ := ho
      exact ⟨⟨c, e, fz, h1, h3⟩, hw⟩
    | _ => simp [AObj.read] at hc

theorem cell_at (hr : Rep P R ρ ow h w) {b k : Nat} {cs : List AVal} {v : AVal} (hc : cellsAt h b = some cs) (hv : cs[k]? = some v) :
    w.cell? ⟨(ρ b).blk, (ρ b).base + k, none⟩ = some (conc ρ v) := by
  obtain ⟨⟨c, e, fz, h1, h2⟩, _⟩ := cellsAt_world hr hc
  simp [World.cell?, h1, h2 k v hv]

theorem run_cells (hr : Rep P R ρ ow h w) {b p n : Nat} {cs : List AVal} (hc : cellsAt h b = some cs) (hn : p + n ≤ cs.length) :
    (loadCells ⟨(ρ b).blk, (ρ b).base + p, none⟩ n).run P w = .ok (concs ρ ((cs.drop p).take n)).toArray w := by
  have hl : (concs ρ ((cs.drop p).take n)).length = n := by simp [concs_length]; omega
  have := run_loadCells_list (P := P) w ⟨(ρ b).blk, (ρ b).base + p, none⟩ (concs ρ ((cs.drop p).take n)) (fun j v hv => by
    rw [addr_add, Nat.add_assoc]
    rw [concs_get, Option.map_eq_some_iff] at hv
    obtain ⟨u, hu, rfl⟩ := hv
    rw [List.getElem?_take] at hu
    split at hu
    · rw [List.getElem?_drop] at hu
      exact cell_at hr hc hu
    · simp at hu)
  rwa [hl] at this

theorem fz_cell (hr : Rep P R ρ ow h w) {b p k : Nat} {cs : List AVal} {v : AVal} (hf : fzAt ρ.Z b p cs) (hb : belows ρ.Z 0 cs) (hv : cs[k]? = some v) : w.cell? ⟨b, p + k, none⟩ = some (conc ρ v) := by
  obtain ⟨c, h1, h2⟩ := hf.at (ρ := ρ) hb hv
  obtain ⟨⟨e, z, h3⟩, _⟩ := hr.fz b c h1
  simp [World.cell?, h3, h2]
theorem run_fz (hr : Rep P R ρ ow h w) {b p n : Nat} {cs : List AVal} (hf : fzAt ρ.Z b p cs) (hb : belows ρ.Z 0 cs) (hn : n ≤ cs.length) :
    (loadCells ⟨b, p, none⟩ n).run P w = .ok (concs ρ (cs.take n)).toArray w := by
  have hl : (concs ρ (cs.take n)).length = n := by simp [concs_length]; omega
  have := run_loadCells_list (P := P) w ⟨b, p, none⟩ (concs ρ (cs.take n)) (fun j v hv => by
    rw [addr_add]
    rw [concs_get, Option.map_eq_some_iff] at hv
    obtain ⟨u, hu, rfl⟩ := hv
    rw [List.getElem?_take] at hu
    split at hu
    · exact fz_cell hr hf hb hu
    · simp at hu)
  rwa [hl] at this

theorem ok_load {T : TypeId} {x : Operand} (ho : o.op = .load T x) (hk : whenT P T <| ldP (szOf P T) (aggT P T) (evT t x) h fun v => K v h) (hr : Rep P R ρ ow h w) (he : EnvR ρ h.length t a) : OpOk P R o a ρ ow h w K := by
  have hx := eval_fits he x
  obtain ⟨⟨d, hd⟩, hk⟩ := whenT_elim hk
  unfold ldP at hk
  split at hk
  · rename_i b p hb
    rw [hb] at hx
    split at hk
    · rename_i cs hcs
      have hw := (cellsAt_world hr hcs).2
      split at hk
      · rename_i hag
        split at hk
        · rename_i hle
          refine OpOk.value hr (v' := .agg (concs ρ ((cs.drop p).take (szOf P T))).toArray) ?_ hk (VR.of_one (.inr (by simp [conc]))) (by simpa [below] using belows_take hw _ _)
          simp [execOp, ho, hx.1.ptr, Instr.loadAt, Instr.sureAddr, loadVar, run_agg hd, hag, run_sz hd, run_cells hr hcs hle]
        · exact hk.elim
      · rename_i hag
        obtain ⟨v, hv, hk⟩ := optP_elim hk
        simp at hag
        refine OpOk.value hr (v' := conc ρ v) ?_ hk (VR.of_eq ρ v) ((belows_iff _ _ cs).1 hw v (List.mem_of_getElem? hv))
        simp [execOp, ho, hx.1.ptr, Instr.loadAt, Instr.sureAddr, loadVar, run_agg hd, hag, cell_at hr hcs hv]
    · exact hk.elim
  · rename_i b p cs hb
    rw [hb] at hx
    have hbl := hx.2
    simp only [below] at hbl
    split at hk
    · rename_i hag
      split at hk
      · rename_i hle
        refine OpOk.value hr (v' := .agg (concs ρ (cs.take (szOf P T))).toArray) ?_ hk (VR.of_one (.inr (by simp [conc]))) (by simpa [below] using belows_mono (Nat.zero_le _) _ (belows_sub hbl.2 fun _ hv => List.mem_of_mem_take hv))
        simp [execOp, ho, hx.1.fp, Instr.loadAt, Instr.sureAddr, loadVar, run_agg hd, hag, run_sz hd, run_fz hr hbl.1 hbl.2 hle]
      · exact hk.elim
    · rename_i hag
      obtain ⟨v, hv, hk⟩ := optP_elim hk
      simp at hag
      refine OpOk.value hr (v' := conc ρ v) ?_ hk (VR.of_eq ρ v) (below_mono (Nat.zero_le _) _ ((belows_iff _ _ cs).1 hbl.2 v (List.mem_of_getElem? hv)))
      have := fz_cell hr hbl.1 hbl.2 hv
      rw [Nat.add_zero] at this
      simp [execOp, ho, hx.1.fp, Instr.loadAt, Instr.sureAddr, loadVar, run_agg hd, hag, this]
  · exact hk.elim

/-! Writing. -/
theorem Fr.set {w' : World} {h' : AHeap A} (r : Rep P R ρ ow h w) (h1 : w'.os = w.os) (h2 : w'.tape = w.tape) (h3 : w'.output = w.output) (h4 : w.heap.size ≤ w'.heap.size) (i : Nat)
    (h5 : ∀ b, b ∉ ow i → w'.heap[b]? = w.heap[b]?) (h6 : h'.length = h.length) : Fr ρ ow h w ρ ow h' w' where
  os := h1
  tape := h2
  output := h3
  size := h4
  block b hb hn := h5 b (hn i)
  own i b hb := .inl ⟨i, hb⟩
  agree _ _ := rfl
  len := by omega
  le := Fz.le_refl _
  fz _ _ h := .inl h

theorem setAt_elim {b p : Nat} {new : List AVal} {h' : AHeap A} (hs : setAt h b p new = some h') :
    ∃ e cs, h[b]? = some (.cells e cs) ∧ p + new.length ≤ cs.length ∧ new.all AVal.scalar = true ∧ h' = h.set b (.cells e (over cs p new)) := by
  unfold setAt at hs
  split at hs
  · rename_i e cs hb
    split at hs
    · rename_i hc
      simp only [Option.some.injEq] at hs
      exact ⟨e, cs, hb, hc.1, hc.2, hs.symm⟩
    · simp at hs
  · simp at hs

theorem run_setAt (hr : Rep P R ρ ow h w) {b p : Nat} {new : List AVal} {h' : AHeap A} (hs : setAt h b p new = some h') (hb : belows ρ.Z h.length new) :
    ∃ w', (storeCells ⟨(ρ b).blk, (ρ b).base + p, none⟩ (concs ρ new)).run P w = .ok () w' ∧ Rep P R ρ ow h' w' ∧ Fr ρ ow h w ρ ow h' w' := by
  obtain ⟨e, cs, hhb, hle, hsc, rfl⟩ := setAt_elim hs
  obtain ⟨hown, c, fz, h1, h2, h3, h4⟩ := hr.obj b _ hhb
  have hwf := hr.wf b _ hhb
  have hcs : (ρ b).base + cs.length ≤ c.size := by omega
  have hlt := (Array.getElem?_eq_some_iff.1 h1).1
  have hone : ∀ v ∈ concs ρ new, v.oneCell' = true := by
    intro v hv
    rw [concs_map] at hv
    obtain ⟨u, hu, rfl⟩ := List.mem_map.1 hv
    exact scalar_one (List.all_eq_true.1 hsc u hu)
  have hrun := run_storeCells_put P (ρ b).blk ((ρ b).base + p) e fz (concs ρ new) 0 c w h1 h4.1 (by simp [concs_length]; omega) hone
  refine ⟨_, hrun, ?_, ?_⟩
  · refine hr.set hhb (by rw [put_size]; exact Nat.le_refl _) (fun x hx => ?_) (over_below _ hwf hb) ?_
    · rw [hown] at hx
      exact put_get_ne _ _ _ _ (by simpa using hx)
    · refine ⟨hown, _, fz, put_get _ _ _ hlt, by rw [overA_size, over_length _ _ _ hle]; exact h2, ?_, by rw [overA_size]; exact h4⟩
      intro k v hv
      rw [over_get _ _ _ _ hle] at hv
      rw [overA_get _ _ _ _ (by simp [concs_length]; omega)]
      simp only [Nat.add_zero, concs_length]
      split at hv
      · rename_i hk
        rw [if_pos (by omega), concs_get, show (ρ b).base + k - ((ρ b).base + p) = k - p by omega, hv]; rfl
      · rename_i hk
        rw [if_neg (by omega)]
        exact h3 k v hv
  · refine Fr.set hr rfl rfl rfl (by rw [put_size]; exact Nat.le_refl _) b (fun x hx => ?_) (by simp)
    rw [hown] at hx
    exact put_get_ne _ _ _ _ (by simpa using hx)

theorem ok_store {T : TypeId} {x y : Operand} (ho : o.op = .store T x y) (hk : whenT P T <| stP (szOf P T) (evT t x) (evT t y) h fun h => K .any h) (hr : Rep P R ρ ow h w) (he : EnvR ρ h.length t a) : OpOk P R o a ρ ow h w K := by
  have hx := eval_fits he x
  have hy := eval_fits he y
  obtain ⟨⟨d, hd⟩, hk⟩ := whenT_elim hk
  unfold stP at hk
  split at hk
  · rename_i b p hb
    rw [hb] at hx
    split at hk
    · rename_i hn
      obtain ⟨h', hs, hk⟩ := hP_elim hk
      obtain ⟨e, cs, hhb, hle, hsc, _⟩ := setAt_elim hs
      obtain ⟨hcells, _⟩ := cs_fits hy.1 hsc
      obtain ⟨w', hrun, h1, h2⟩ := run_setAt hr hs (cs_below hy.2)
      refine OpOk.skip ?_ hk h1 h2
      have hsz : ¬ ((concs ρ (evT t y).cs).toArray.size ≠ szOf P T) := by simp [concs_length, hn]
      simp only [execOp, ho, hx.1.ptr, Instr.storeAt, Instr.sureAddr, storeVar, Sem.run_bind, Sem.run_pure, Result.andThen_ok, run_sz hd, hcells, if_neg hsz, hrun]
    · exact hk.elim
  · exact hk.elim
end Go.AI
namespace Go.AI
variable {A : Type} {P : Program} {R : Adts A} {ρ : Pl} {ow : Nat → List Nat} {h : AHeap A} {w : World} {a : Act} {t : Env} {o : Oper} {K : AVal → AHeap A → Prop}

theorem concs_bytes (ρ : Pl) (s : List UInt8) : concs ρ (s.map fun b => AVal.int .u8 b.toNat) = s.map fun b => Value.int .u8 b.toNat := by
  rw [concs_map, List.map_map]; rfl

/-- What append and copy read. -/
theorem src_fits (hr : Rep P R ρ ow h w) {sz n : Nat} {y : AVal} {v : Value} {new : List AVal} (hv : VR ρ y v ∧ below ρ.Z h.length y) (hs : srcOf sz h y = some (n, new)) :
    (Builtin.lenOf v).run P w = .ok n w ∧ (∀ d k, k ≤ n → (Builtin.firstCells sz k v).run P { w with drawn := d } = .ok (concs ρ (new.take (k * sz))).toArray { w with drawn := d }) ∧ belows ρ.Z h.length new ∧ new.length = n * sz := by
  unfold srcOf at hs
  split at hs
  · simp at hs; obtain ⟨rfl, rfl⟩ := hs
    rw [hv.1.nils]
    refine ⟨rfl, fun d k hk => ?_, trivial, by simp⟩
    simp [Builtin.firstCells, concs]
  · simp at hs; obtain ⟨rfl, rfl⟩ := hs
    rw [hv.1.empt]
    refine ⟨rfl, fun d k hk => ?_, trivial, by simp⟩
    have : k = 0 := by omega
    subst this
    simp [Builtin.firstCells, concs, loadCells, loadCellsFrom]
  · rename_i s
    split at hs
    · rename_i hsz
      subst hsz
      simp at hs; obtain ⟨rfl, rfl⟩ := hs
      rw [hv.1.str]
      refine ⟨by simp [Builtin.lenOf, ByteArray.size], fun d k hk => ?_, ?_, by simp⟩
      · simp only [Builtin.firstCells, bytes_extract, Sem.run_pure, Nat.mul_one, List.drop_zero]
        congr 1
        apply Array.ext'
        rw [← List.map_take, concs_bytes]
        simp
      · rw [belows_iff]; intro u hu; obtain ⟨b, _, rfl⟩ := List.mem_map.1 hu; trivial
    · simp at hs
  · rename_i b p len cap ex
    split at hs
    · rename_i cs hcs
      split at hs
      · rename_i hle
        simp at hs; obtain ⟨rfl, rfl⟩ := hs
        rw [hv.1.sl]
        refine ⟨rfl, fun d k hk => ?_, belows_take (cellsAt_world hr hcs).2 _ _, by simp; omega⟩
        have hr1 : Rep P R ρ ow h { w with drawn := d } := hr.world (Nat.le_refl _) (fun _ _ => rfl)
        have hk' : k * sz ≤ len * sz := Nat.mul_le_mul_right sz hk
        have := run_cells hr1 (p := p) (n := k * sz) hcs (by omega)
        simp only [Builtin.firstCells]
        rw [this, List.take_take, Nat.min_eq_left hk']
      · simp at hs
    · simp at hs
  · rename_i b p len cap cs
    split at hs
    · rename_i hle
      simp at hs; obtain ⟨rfl, rfl⟩ := hs
      rw [hv.1.lst]
      have hbl := hv.2
      simp only [below] at hbl
      refine ⟨rfl, fun d k hk => ?_, belows_mono (Nat.zero_le _) _ hbl.2, hle⟩
      have hr1 : Rep P R ρ ow h { w with drawn := d } := hr.world (Nat.le_refl _) (fun _ _ => rfl)
      have hk' : k * sz ≤ len * sz := Nat.mul_le_mul_right sz hk
      simp only [Builtin.firstCells]
      rw [run_fz hr1 hbl.1 hbl.2 (by omega)]
    · simp at hs
  · simp at hs; obtain ⟨rfl, rfl⟩ := hs
    rw [hv.1.odd]
    refine ⟨rfl, fun d k hk => ?_, trivial, by simp⟩
    have : k = 0 := by omega
    subst this
    simp [Builtin.firstCells, concs, loadCells, loadCellsFrom]
  · simp at hs

theorem growBy_le (need : Nat) : ∀ (r c : Nat), c ≤ need → Builtin.growBy need r c ≤ 2 * need + 1000
  | 0, c, hc => by simp [Builtin.growBy]; omega
  | r + 1, c, hc => by
    unfold Builtin.growBy
    split
    · omega
    · rename_i h1
      by_cases h2 : c + (c + 768) / 4 ≤ need
      · exact growBy_le need r _ h2
      · cases r with
        | zero => simp [Builtin.growBy]; omega
        | succ r => unfold Builtin.growBy; rw [if_pos (by omega)]; omega
theorem nextcap_le {need cap : Nat} (h : cap < need) : Builtin.nextslicecap need cap ≤ 2 * need + 1000 := by
  unfold Builtin.nextslicecap
  split
  · omega
  · split
    · omega
    · exact growBy_le need 4 cap (by omega)
theorem nextcap_zero (need : Nat) (h : 0 < need) : Builtin.nextslicecap need 0 = need := by
  unfold Builtin.nextslicecap; rw [if_pos (by omega)]

theorem zeroCells_size (z : Array Value) (n : Nat) : (Builtin.zeroCells z n).size = n * z.size := by simp [Builtin.zeroCells]

/-- An append that fits. -/
theorem run_app_fits {T U e : TypeId} {D : TypeDesc} (hT : P.underlying T = some (.slice e)) (hU : P.underlying U = some D) (hD : ∀ k, D ≠ .int k) {de : TypeDesc} (hE : P.underlying e = some de)
    {base : Option Addr} {sLen sCap n : Nat} {v : Value} {ty : TypeId} {new : Array Value} (hl : (Builtin.lenOf v).run P w = .ok n w) (hn : sLen + n ≤ sCap)
    (hf : (Builtin.firstCells (szOf P e) n v).run P w = .ok new w) {w' : World}
    (hst : ∀ b, base = some b → (storeCells (b.add (sLen * szOf P e)) new.toList).run P w = .ok () w') (hno : base = none → w' = w) :
    (Builtin.append_ #[T, U] ty #[.slice base sLen sCap, v]).run P w = .ok (.slice base (sLen + n) sCap) w' := by
  have hm : (match D with | .int _ => true | _ => false) = false := by cases D <;> first | rfl | exact absurd rfl (hD _)
  simp only [Builtin.append_, List.getElem?_toArray, List.getElem?_cons_zero, List.getElem?_cons_succ, Sem.run_bind, run_und hT, Result.andThen_ok, run_sz hE, run_und hU, Sem.run_pure, hm,
    Bool.false_eq_true, if_false, hl, hn, if_true, Bool.not_false, hf]
  cases base with
  | none => rw [hno rfl]; rfl
  | some b => simp only [Sem.run_bind, hst b rfl, Result.andThen_ok, Sem.run_pure]

/-- An append that moves. -/
theorem run_app_moves {T U e : TypeId} {D : TypeDesc} (hT : P.underlying T = some (.slice e)) (hU : P.underlying U = some D) (hD : ∀ k, D ≠ .int k) {de : TypeDesc} (hE : P.underlying e = some de)
    {base : Option Addr} {sLen sCap n : Nat} {v : Value} {ty : TypeId} {old new : Array Value} (hl : (Builtin.lenOf v).run P w = .ok n w) (hn : ¬ sLen + n ≤ sCap)
    (hb : 0 < P.bytesOf e) (hnx : Builtin.nextslicecap (sLen + n) sCap * P.bytesOf e ≤ 2 ^ 48)
    (ho : (Builtin.firstCells (szOf P e) sLen (.slice base sLen sCap)).run P { w with drawn := w.drawn + 1 } = .ok old { w with drawn := w.drawn + 1 })
    (hf : (Builtin.firstCells (szOf P e) n v).run P { w with drawn := w.drawn + 1 } = .ok new { w with drawn := w.drawn + 1 }) {z : List AVal} (hz : zeroC P e = some z) :
    ∃ extra rest, rest.size = extra * z.length ∧ (Builtin.append_ #[T, U] ty #[.slice base sLen sCap, v]).run P w =
      .ok (.slice (some ⟨w.heap.size, 0, none⟩) (sLen + n) (sLen + n + extra)) { w with heap := w.heap.push (.cells (old ++ new ++ rest) e), drawn := w.drawn + 1 } := by
  have hm : (match D with | .int _ => true | _ => false) = false := by cases D <;> first | rfl | exact absurd rfl (hD _)
  obtain ⟨i, hi⟩ := info_of_und hE
  have hbi : i.bytes = P.bytesOf e := by simp [Program.bytesOf, hi]
  obtain ⟨v0, hv0, hv0c⟩ := run_zeroV default hz { w with drawn := w.drawn + 1 }
  have hforced : (Question.appendCap (sLen + n) sCap e).forced = false := rfl
  have hcut : ∀ x, (Question.appendCap (sLen + n) sCap e).cut x = sLen + n + x % (2 ^ 63 - (sLen + n)) := fun _ => rfl
  refine ⟨w.tape w.drawn (.appendCap (sLen + n) sCap e) % (2 ^ 63 - (sLen + n)), Builtin.zeroCells v0.cells (w.tape w.drawn (.appendCap (sLen + n) sCap e) % (2 ^ 63 - (sLen + n))), ?_, ?_⟩
  · rw [zeroCells_size, hv0c]; simp [concs_length]
  · have hnz : ¬ (i.bytes = 0) := by omega
    have hnx' : ¬ (Builtin.nextslicecap (sLen + n) sCap * i.bytes > 2 ^ 48) := by rw [hbi]; omega
    have hsub : ∀ k, sLen + n + k - (sLen + n) = k := fun k => by omega
    simp only [Builtin.append_, List.getElem?_toArray, List.getElem?_cons_zero, List.getElem?_cons_succ, Sem.run_bind, run_und hT, Result.andThen_ok, run_sz hE, run_und hU, Sem.run_pure, hm,
      Bool.false_eq_true, if_false, hl, hn, if_true, Bool.not_false, run_ti hi, hnz, or_self, and_false, hnx', run_choose, hforced, run_askRoom, ho, hf, hv0, hcut, newRow, run_newObj, hsub]
end Go.AI
namespace Go.AI
variable {A : Type} {P : Program} {R : Adts A} {ρ : Pl} {ow : Nat → List Nat} {h : AHeap A} {w : World} {a : Act} {t : Env} {o : Oper} {K : AVal → AHeap A → Prop}

theorem Fr.kill (r : Rep P R ρ ow h w) (b : Nat) : Fr ρ ow h w ρ (upd ow b []) (h.set b .dead) w where
  os := rfl
  tape := rfl
  output := rfl
  size := Nat.le_refl _
  block _ _ _ := rfl
  own i x hx := by
    by_cases hi : i = b
    · subst hi; rw [upd_same] at hx; simp at hx
    · rw [upd_ne _ _ hi] at hx; exact .inl ⟨i, hx⟩
  agree _ _ := rfl
  len := by simp
  le := Fz.le_refl _
  fz _ _ h := .inl h

theorem cellsAre_append {ρ : Pl} {c : Array Value} {x y : List AVal} {rest : Array Value} (hc : c = (concs ρ x).toArray ++ (concs ρ y).toArray ++ rest) : cellsAre ρ 0 c (x ++ y) := by
  subst hc
  intro k v hv
  have hk := (List.getElem?_eq_some_iff.1 hv).1
  rw [Nat.zero_add, Array.getElem?_append_left (by simp [concs_length] at hk ⊢; exact hk)]
  have : (concs ρ x).toArray ++ (concs ρ y).toArray = (concs ρ (x ++ y)).toArray := by simp [concs_append]
  rw [this]
  simp [concs_get, hv]

/-- What a moved append leaves. -/
theorem moved (r : Rep P R ρ ow h w) (e : TypeId) (x y : List AVal) (hx : belows ρ.Z h.length x) (hy : belows ρ.Z h.length y) (rest : Array Value) (extra : Nat) (z : Nat) (hz : rest.size = extra * z) (hze : z = P.cellsOf e) (d : Nat) :
    Rep P R (updP ρ h.length ⟨w.heap.size, 0, extra⟩) (upd ow h.length [w.heap.size]) (h ++ [.cells e (x ++ y)]) { w with heap := w.heap.push (.cells ((concs ρ x).toArray ++ (concs ρ y).toArray ++ rest) e), drawn := d } ∧
      Fr ρ ow h w (updP ρ h.length ⟨w.heap.size, 0, extra⟩) (upd ow h.length [w.heap.size]) (h ++ [.cells e (x ++ y)]) { w with heap := w.heap.push (.cells ((concs ρ x).toArray ++ (concs ρ y).toArray ++ rest) e), drawn := d } := by
  refine r.new e (x ++ y) ?_ _ (0, 0) extra (cellsAre_append rfl) ?_ ⟨.inr (by simp), .inl (by simp)⟩ _ rfl rfl rfl rfl
  · rw [belows_iff] at *
    intro v hv
    rcases List.mem_append.1 hv with hv | hv
    · exact hx v hv
    · exact hy v hv
  · simp [concs_length, hz, hze]

theorem nx_ok {need cap bytes : Nat} {ex : Bool} (hlt : cap < need) (h : (cap = 0 ∧ ex = true ∧ need * bytes ≤ 140737488355328) ∨ (2 * need + 1000) * bytes ≤ 140737488355328) : Builtin.nextslicecap need cap * bytes ≤ 2 ^ 48 := by
  rcases h with ⟨rfl, _, h⟩ | h
  · rw [nextcap_zero need hlt]; omega
  · have := Nat.mul_le_mul_right bytes (nextcap_le hlt)
    omega
theorem nx_ok2 {need cap' bytes : Nat} (hlt : cap' < need) (h : (2 * need + 1000) * bytes ≤ 140737488355328) : Builtin.nextslicecap need cap' * bytes ≤ 2 ^ 48 := by
  have := Nat.mul_le_mul_right bytes (nextcap_le hlt)
  omega

theorem ok_app {T U e : TypeId} {D : TypeDesc} {x y : Operand} {c : Call} {z : List AVal} (ho : o.op = .call c) (hcal : c.callee = .builtin .append) (hat : c.argTypes.toList = [T, U]) (hx1 : c.args.toList = [x, y])
    (hT : P.underlying T = some (.slice e)) (hU : P.underlying U = some D) (hD : ∀ k, D ≠ .int k) (hz : zeroC P e = some z) (hzl : z.length = szOf P e)
    (hk : whenT P e <| appP e (szOf P e) (P.bytesOf e) (evT t x) (evT t y) h K) (hr : Rep P R ρ ow h w) (he : EnvR ρ h.length t a) : OpOk P R o a ρ ow h w K := by
  have hx := eval_fits he x
  have hy := eval_fits he y
  obtain ⟨⟨d, hE⟩, hk⟩ := whenT_elim hk
  have hat' : c.argTypes = #[T, U] := Array.toList_inj.1 (by simpa using hat)
  have hx' : c.args = #[x, y] := Array.toList_inj.1 (by simpa using hx1)
  have hex : ∀ {v : Value} {w' : World}, (Builtin.append_ #[T, U] o.type #[a.eval x, a.eval y]).run P w = .ok v w' → (execOp a.eval o).run P w = .ok (.value v) w' := by
    intro v w' hv
    refine exec_builtin ho hcal (f := fun ts T xs => Builtin.append_ ts T xs) (fun _ _ _ _ => rfl) ?_
    simpa [hat', hx'] using hv
  unfold appP optH at hk
  split at hk
  · rename_i v h' hv
    unfold appV at hv
    split at hv
    · simp at hv
    · rename_i n new hs
      obtain ⟨s1, s2, s3, s4⟩ := src_fits hr hy hs
      have s2' : ∀ d, (Builtin.firstCells (szOf P e) n (a.eval y)).run P { w with drawn := d } = .ok (concs ρ new).toArray { w with drawn := d } := by
        intro d
        have := s2 d n (Nat.le_refl _)
        rwa [List.take_of_length_le (by omega)] at this
      split at hv
      · rename_i hxv
        rw [hxv] at hx
        split at hv
        · rename_i hn
          subst hn
          simp only [Option.some.injEq, Prod.mk.injEq] at hv
          obtain ⟨rfl, rfl⟩ := hv
          refine OpOk.value' (hex ?_) hk (VR.of_eq ρ .nils) trivial hr (Fr.refl _ _ _ _)
          rw [hx.1.nils]
          exact run_app_fits hT hU hD hE s1 (by omega) (s2' w.drawn) (by simp) (fun _ => rfl)
        · rename_i hn
          split at hv
          · rename_i hb
            simp only [Option.some.injEq, Prod.mk.injEq] at hv
            obtain ⟨rfl, rfl⟩ := hv
            obtain ⟨extra, rest, hrest, hrun⟩ := run_app_moves (base := none) (sLen := 0) (sCap := 0) (ty := o.type) (old := (concs ρ []).toArray) hT hU hD hE s1 (by omega) hb.1 (by rw [Nat.zero_add, nextcap_zero n (by omega)]; omega) (by simp [Builtin.firstCells, concs]) (s2' _) hz
            obtain ⟨m1, m2⟩ := moved hr e [] new trivial s3 rest extra _ hrest hzl (w.drawn + 1)
            refine OpOk.value' (hex (by rw [hx.1.nils]; exact hrun)) hk (VR.of_one (.inr ?_)) (by simp [below]) m1 m2
            simp [conc, updP_same]
          · simp at hv
      · rename_i b p len cap ex hxv
        rw [hxv] at hx
        split at hv
        · rename_i hfit
          simp only [Option.map_eq_some_iff] at hv
          obtain ⟨h2, hset, hv⟩ := hv
          simp only [Prod.mk.injEq] at hv
          obtain ⟨rfl, rfl⟩ := hv
          obtain ⟨w', hrun, r1, r2⟩ := run_setAt hr hset s3
          refine OpOk.value' (hex ?_) hk (VR.of_eq ρ (.sl b p (len + n) cap ex)) (by simpa [below, r1.out] using Nat.lt_of_lt_of_le hx.2 r2.len) r1 r2
          rw [hx.1.sl]
          refine run_app_fits hT hU hD hE s1 (by split <;> omega) (s2' w.drawn) ?_ (by simp)
          rintro _ ⟨rfl⟩
          rw [addr_add, Nat.add_assoc]
          exact hrun
        · rename_i hfit
          split at hv
          · rename_i e' cs hb
            have hcs : cellsAt h b = some cs := by simp [cellsAt, hb, AObj.read]
            have hwf : belows ρ.Z h.length cs := hr.wf b _ hb
            split at hv
            · rename_i hcond
              obtain ⟨c1, c2, c3⟩ := hcond
              have hold : (Builtin.firstCells (szOf P e) len (a.eval x)).run P { w with drawn := w.drawn + 1 } = .ok (concs ρ ((cs.drop p).take (len * szOf P e))).toArray { w with drawn := w.drawn + 1 } := by
                rw [hx.1.sl]
                have hr1 : Rep P R ρ ow h { w with drawn := w.drawn + 1 } := hr.world (Nat.le_refl _) (fun _ _ => rfl)
                exact run_cells hr1 hcs c2
              split at hv
              · rename_i hexx
                simp only [Option.some.injEq, Prod.mk.injEq] at hv
                obtain ⟨rfl, rfl⟩ := hv
                rw [hx.1.sl] at hold hex
                rw [if_pos hexx] at hold hex
                obtain ⟨extra, rest, hrest, hrun⟩ := run_app_moves (ty := o.type) hT hU hD hE s1 hfit c1 (nx_ok (by omega) c3) hold (s2' _) hz
                obtain ⟨m1, m2⟩ := moved hr e ((cs.drop p).take (len * szOf P e)) new (belows_take hwf _ _) s3 rest extra _ hrest hzl (w.drawn + 1)
                refine OpOk.value' (hex hrun) hk (VR.of_one (.inr ?_)) (by simp [below]) m1 m2
                simp [conc, updP_same]
              · rename_i hexx
                split at hv
                · rename_i hkill
                  obtain ⟨rfl, hend, hsc⟩ := hkill
                  simp only [Option.some.injEq, Prod.mk.injEq] at hv
                  obtain ⟨rfl, rfl⟩ := hv
                  rw [hx.1.sl] at hold hex
                  rw [if_neg hexx] at hold hex
                  have c3' : (2 * (len + n) + 1000) * P.bytesOf e' ≤ 140737488355328 := by
                    rcases c3 with ⟨_, h1, _⟩ | h1
                    · exact absurd h1 hexx
                    · exact h1
                  by_cases hin : len + n ≤ cap + (ρ b).spare
                  · obtain ⟨hown, cc, fz, q1, q2, q3, q4⟩ := hr.obj b _ hb
                    have hlt := (Array.getElem?_eq_some_iff.1 q1).1
                    have hone : ∀ v ∈ concs ρ new, v.oneCell' = true := by
                      intro v hv
                      rw [concs_map] at hv
                      obtain ⟨u, hu, rfl⟩ := List.mem_map.1 hv
                      exact scalar_one (List.all_eq_true.1 hsc u hu)
                    have hsize : (ρ b).base + p + (len + n) * szOf P e' + (cap + (ρ b).spare - (len + n)) * P.cellsOf e' ≤ cc.size := by
                      have : (len + n) * szOf P e' + (cap + (ρ b).spare - (len + n)) * P.cellsOf e' = (cap + (ρ b).spare) * P.cellsOf e' := by
                        unfold szOf; rw [← Nat.add_mul]; congr 1; omega
                      have h3 : cap * szOf P e' + (ρ b).spare * P.cellsOf e' = (cap + (ρ b).spare) * P.cellsOf e' := by unfold szOf; rw [← Nat.add_mul]
                      omega
                    have hln : (len + n) * szOf P e' = len * szOf P e' + n * szOf P e' := Nat.add_mul _ _ _
                    have hst := run_storeCells_put P (ρ b).blk ((ρ b).base + p + len * szOf P e') e' fz (concs ρ new) 0 cc w q1 q4.1 (by simp [concs_length, s4]; omega) hone
                    have hrun := run_app_fits (ty := o.type) (base := some ⟨(ρ b).blk, (ρ b).base + p, none⟩) (sLen := len) (sCap := cap + (ρ b).spare) hT hU hD hE s1 hin (s2' w.drawn) (w' := put_ w (ρ b).blk (.cells (overA cc ((ρ b).base + p + len * szOf P e' + 0) (concs ρ new)) e' fz)) (by
                      rintro _ ⟨rfl⟩
                      rw [addr_add]
                      exact hst) (by simp)
                    have hkr := hr.kill b
                    have hlen : (h.set b (.dead : AObj A)).length = h.length := by simp
                    have m1 := hkr.snoc (w' := put_ w (ρ b).blk (.cells (overA cc ((ρ b).base + p + len * szOf P e' + 0) (concs ρ new)) e' fz)) (by rw [put_size]; exact Nat.le_refl _)
                      ⟨(ρ b).blk, (ρ b).base + p, cap + (ρ b).spare - (len + n)⟩ [(ρ b).blk] (fun x _ hx => put_get_ne _ _ _ _ (by simpa using hx)) (by
                        intro x hx
                        simp at hx; subst hx
                        refine ⟨by rw [put_size]; exact hlt, fun j hj => ?_, hr.zown (i := b) (by rw [hown]; simp)⟩
                        · by_cases hjb : j = b
                          · subst hjb; rw [upd_same] at hj; simp at hj
                          · rw [upd_ne _ _ hjb] at hj; exact hjb (hr.disj j b _ hj (by rw [hown]; simp))
                        )
                      (.cells e' ((cs.drop p).take (len * szOf P e') ++ new)) (by
                        rw [hlen]
                        show belows _ _ _
                        refine belows_mono (n := h.length) (by omega) _ ?_
                        rw [belows_iff]
                        intro v hv
                        rcases List.mem_append.1 hv with hv | hv
                        · exact (belows_iff _ _ _).1 (belows_take hwf _ _) v hv
                        · exact (belows_iff _ _ _).1 s3 v hv) (by
                        refine ⟨rfl, _, fz, put_get _ _ _ hlt, ?_, ?_, by rw [overA_size]; exact q4⟩
                        · rw [overA_size]
                          simp only [List.length_append, List.length_take, List.length_drop, s4]
                          have : min (len * szOf P e') (cs.length - p) = len * szOf P e' := by omega
                          omega
                        · refine cellsAre.congr (Z := ρ.Z) (n := h.length) (ρ := ρ) (fun x hx => (updP_ne _ _ (by rw [hlen]; omega)).symm) ?_ ?_
                          · rw [belows_iff]
                            intro v hv
                            rcases List.mem_append.1 hv with hv | hv
                            · exact (belows_iff _ _ _).1 (belows_take hwf _ _) v hv
                            · exact (belows_iff _ _ _).1 s3 v hv
                          · intro k v hv
                            have hmin : ((cs.drop p).take (len * szOf P e')).length = len * szOf P e' := by simp; omega
                            rw [overA_get _ _ _ _ (by simp [concs_length, s4]; omega)]
                            simp only [Nat.add_zero, concs_length]
                            by_cases hkk : k < len * szOf P e'
                            · rw [List.getElem?_append_left (by omega), List.getElem?_take, if_pos hkk, List.getElem?_drop] at hv
                              rw [if_neg (by omega), Nat.add_assoc]
                              exact q3 _ v hv
                            · rw [List.getElem?_append_right (by omega), hmin] at hv
                              have hk2 := (List.getElem?_eq_some_iff.1 hv).1
                              rw [if_pos (by omega), concs_get, show (ρ b).base + p + k - ((ρ b).base + p + len * szOf P e') = k - len * szOf P e' by omega, hv]
                              rfl)
                    rw [hlen] at m1
                    refine OpOk.value' (hex hrun) hk (VR.of_one (.inr ?_)) (by simp [below]) m1 ?_
                    · simp only [conc, updP_same, Nat.add_zero, Bool.false_eq_true, if_false]
                      congr 1
                      omega
                    · refine ⟨rfl, rfl, rfl, by rw [put_size]; exact Nat.le_refl _, fun x hx hn => put_get_ne _ _ _ _ ?_, fun i x hx => ?_, fun i hi => (updP_ne _ _ (by omega)).symm, by simp, Fz.le_refl _, fun _ _ h => .inl h⟩
                      · rintro rfl; exact hn b (by rw [hown]; simp)
                      · by_cases hi : i = h.length
                        · subst hi; rw [upd_same] at hx; simp at hx; subst hx; exact .inl ⟨b, by rw [hown]; simp⟩
                        · rw [upd_ne _ _ hi] at hx
                          by_cases hib : i = b
                          · subst hib; rw [upd_same] at hx; simp at hx
                          · rw [upd_ne _ _ hib] at hx; exact .inl ⟨i, hx⟩
                  · obtain ⟨extra, rest, hrest, hrun⟩ := run_app_moves (ty := o.type) hT hU hD hE s1 hin c1 (nx_ok2 (by omega) c3') hold (s2' _) hz
                    have hlen : (h.set b (.dead : AObj A)).length = h.length := by simp
                    obtain ⟨m1, m2⟩ := moved (hr.kill b) e' ((cs.drop p).take (len * szOf P e')) new (by rw [hlen]; exact belows_take hwf _ _) (by rw [hlen]; exact s3) rest extra _ hrest hzl (w.drawn + 1)
                    rw [hlen] at m1 m2
                    refine OpOk.value' (hex hrun) hk (VR.of_one (.inr ?_)) (by simp [below]) m1 ((Fr.kill hr b).trans m2)
                    simp [conc, updP_same]
                · simp at hv
            · simp at hv
          · simp at hv
      · rename_i b p len cap cs hxv
        rw [hxv] at hx
        have hbl := hx.2
        simp only [below] at hbl
        split at hv
        · rename_i hn
          obtain ⟨hn, hlc⟩ := hn
          subst hn
          simp only [Option.some.injEq, Prod.mk.injEq] at hv
          obtain ⟨rfl, rfl⟩ := hv
          refine OpOk.value' (hex ?_) hk (VR.of_eq ρ (.lst b p len cap cs)) hx.2 hr (Fr.refl _ _ _ _)
          rw [hx.1.lst]
          have hnew : concs ρ new = [] := by
            have : new = [] := List.eq_nil_of_length_eq_zero (by simpa using s4)
            rw [this]; rfl
          have := run_app_fits (w' := w) (ty := o.type) (base := some ⟨b, p, none⟩) (sLen := len) (sCap := cap) hT hU hD hE s1 (by omega) (s2' w.drawn) (by rintro _ ⟨rfl⟩; rw [hnew]; rfl) (by simp)
          simpa [conc] using this
        · rename_i hn
          split at hv
          · rename_i hcond
            obtain ⟨c0, c1, c2, c3⟩ := hcond
            simp only [Option.some.injEq, Prod.mk.injEq] at hv
            obtain ⟨rfl, rfl⟩ := hv
            have hold : (Builtin.firstCells (szOf P e) len (.slice (some ⟨b, p, none⟩) len cap)).run P { w with drawn := w.drawn + 1 } = .ok (concs ρ cs).toArray { w with drawn := w.drawn + 1 } := by
              have hr1 : Rep P R ρ ow h { w with drawn := w.drawn + 1 } := hr.world (Nat.le_refl _) (fun _ _ => rfl)
              have := run_fz hr1 hbl.1 hbl.2 (n := len * szOf P e) (by omega)
              rw [List.take_of_length_le (by omega)] at this
              exact this
            rw [hx.1.lst] at hex
            obtain ⟨extra, rest, hrest, hrun⟩ := run_app_moves (ty := o.type) hT hU hD hE s1 (by omega) c1 (nx_ok (ex := true) c0 (by
              rcases c3 with ⟨h1, h2⟩ | h1
              · exact .inl ⟨h1, rfl, h2⟩
              · exact .inr h1)) hold (s2' _) hz
            obtain ⟨m1, m2⟩ := moved hr e cs new (belows_mono (Nat.zero_le _) _ hbl.2) s3 rest extra _ hrest hzl (w.drawn + 1)
            refine OpOk.value' (hex hrun) hk (VR.of_one (.inr ?_)) (by simp [below]) m1 m2
            simp [conc, updP_same]
          · simp at hv
      · simp at hv
  · exact hk.elim
end Go.AI
