/-
  THE MACHINE, second part: the evaluator. What is proved: nothing (definitions).
  Conditions: none.
-/
import Derived.Test.YtoagmokejfcpbaaMachA
namespace Go.Mach

/-! ### names in values -/
mutual
def V.ren (f : Nat → Option Nat) : V → V
  | .ptr n o => match f n with
    | some m => .ptr m o
    | none => .any
  | .slw n => match f n with
    | some m => .slw m
    | none => .any
  | .sl n o l => match f n with
    | some m => .sl m o l
    | none => .any
  | .fn g caps => .fn g (renL f caps)
  | .ro sz cs => .ro sz (renL f cs)
  | .rp cs i => .rp (renL f cs) i
  | .agg cs => .agg (renL f cs)
  | .tup vs => .tup (renL f vs)
  | .any => .any
  | .nil => .nil
  | .bool b => .bool b
  | .int k n => .int k n
  | .flt x => .flt x
  | .val v => .val v
  | .rof xs => .rof xs
  | .roi k xs => .roi k xs
  | .pf xs i => .pf xs i
  | .pi k xs i => .pi k xs i
def renL (f : Nat → Option Nat) : List V → List V
  | [] => []
  | v :: r => V.ren f v :: renL f r
end

mutual
/-- the names in a value -/
def V.refs : V → List Nat
  | .ptr n _ => [n]
  | .slw n => [n]
  | .sl n _ _ => [n]
  | .fn _ caps => refsL caps
  | .ro _ cs => refsL cs
  | .rp cs _ => refsL cs
  | .agg cs => refsL cs
  | .tup vs => refsL vs
  | _ => []
def refsL : List V → List Nat
  | [] => []
  | v :: r => V.refs v ++ refsL r
end

mutual
/-- no read-only memory is named -/
def V.free : V → Bool
  | .rof _ => false
  | .roi _ _ => false
  | .ro _ _ => false
  | .pf _ _ => false
  | .pi _ _ _ => false
  | .rp _ _ => false
  | .fn _ caps => freeL caps
  | .agg cs => freeL cs
  | .tup vs => freeL vs
  | .val v => v.oneCell'
  | .any => false
  | _ => true
def freeL : List V → Bool
  | [] => true
  | v :: r => V.free v && freeL r
end

def Body.ren (f : Nat → Option Nat) : Body → Body
  | .cells cs => .cells (renL f cs)
  | b => b
def Blk.ren (f : Nat → Option Nat) (b : Blk) : Blk := { b with c := b.c.ren f }
def Body.refs : Body → List Nat
  | .cells cs => refsL cs
  | _ => []
def Body.free : Body → Bool
  | .cells cs => freeL cs
  | _ => true

/-- n cells from o on -/
def Body.cut (c : Body) (o n : Nat) : Option Body :=
  match c with
  | .flts xs => cond (decide (o + n ≤ xs.length)) (some (.flts ((xs.drop o).take n))) none
  | .ints k xs => cond (decide (o + n ≤ xs.length)) (some (.ints k ((xs.drop o).take n))) none
  | .cells cs => cond (decide (o + n ≤ cs.length)) (some (.cells ((cs.drop o).take n))) none
def scale (i s : Nat) : Nat := match s with
  | 1 => i
  | s => i * s

/-- what a slice of a block reads as, read only; d: how deep -/
def lend (M : Heap) : Nat → V → Option V
  | 0, _ => none
  | d + 1, .slw n => match look M n with
    | some ⟨_, sz, .flts xs⟩ => cond (sz == 1) (some (.rof xs)) none
    | some ⟨_, sz, .ints k xs⟩ => cond (sz == 1) (some (.roi k xs)) none
    | some ⟨_, sz, .cells cs⟩ => (cs.mapM (lend M d)).map (.ro sz)
    | none => none
  | d + 1, .sl n o len => match look M n with
    | some b => match b.c.cut o (scale len b.sz) with
      | some (.flts xs) => cond (b.sz == 1) (some (.rof xs)) none
      | some (.ints k xs) => cond (b.sz == 1) (some (.roi k xs)) none
      | some (.cells cs) => (cs.mapM (lend M d)).map (.ro b.sz)
      | none => none
    | none => none
  | d + 1, .agg cs => (cs.mapM (lend M d)).map .agg
  | _ + 1, v => some v

/-- the names that are lent -/
def lent (M : Heap) : Nat → V → List Nat
  | 0, _ => []
  | d + 1, .slw n => match look M n with
    | some ⟨_, _, .cells cs⟩ => n :: (cs.map (lent M d)).flatten
    | _ => [n]
  | d + 1, .sl n o len => match look M n with
    | some b => match b.c.cut o (scale len b.sz) with
      | some (.cells cs) => n :: (cs.map (lent M d)).flatten
      | _ => [n]
    | none => [n]
  | d + 1, .agg cs => (cs.map (lent M d)).flatten
  | _ + 1, _ => []
def nodupB : List Nat → Bool
  | [] => true
  | n :: r => !r.contains n && nodupB r

/-- the types of a type's cells (advice only: a nil slice is handed on as an empty list of the right kind) -/
def kinds (P : Program) : Nat → Nat → List Nat
  | 0, t => [t]
  | d + 1, t => match P.underlying t with
    | some (.struct fs) => (fs.toList.map fun f => kinds P d f.type).flatten
    | some (.array n e) => (List.replicate n (kinds P d e)).flatten
    | _ => [t]
def nilTo (P : Program) (t : Nat) : V → V
  | .nil => match P.underlying t with
    | some (.slice e) => match P.underlying e with
      | some (.float .f64) => .rof []
      | some (.int k) => .roi k []
      | _ => .ro ((szOf P e).getD 1) []
    | _ => .nil
  | v => v
def nilToL (P : Program) : List Nat → List V → List V
  | t :: ts, v :: vs => nilTo P t v :: nilToL P ts vs
  | _, vs => vs
def nilArg (P : Program) (t : Nat) : V → V
  | .agg cs => .agg (nilToL P (kinds P 4 t) cs)
  | v => nilTo P t v
def nilArgs (P : Program) : List Nat → List V → List V
  | t :: ts, v :: vs => nilArg P t v :: nilArgs P ts vs
  | _, vs => vs

/-! ### the context -/
abbrev Oracle := Nat → List V → List Blk → (V → List Blk → Bool) → Bool
structure Cx where
  P : Program
  O : Oracle
  /-- functions that are handed slices as they are, to be written or handed on -/
  ref : Nat → Bool
  /-- so many rounds of a loop are looked at -/
  N : Nat

structure St where
  F : List V
  M : Heap

abbrev Upd := List (Nat × Option Blk)
def putAt (M : Heap) (n : Nat) (b : Option Blk) : Heap :=
  cond (decide (n < M.length)) (M.set n b) (M ++ List.replicate (n - M.length) none ++ [b])
def appU : Heap → Upd → Heap
  | M, [] => M
  | M, (n, b) :: r => appU (putAt M n b) r

/-! ### numbers -/
def fits (k : IntKind) (n : Int) : Bool := decide (k.min ≤ n ∧ n ≤ k.max)
def mkInt (q : IntKind) (r : Int) (k : V → Bool) : Bool :=
  match q with
  | .i64 => fits .i64 r && k (.int .i64 r)
  | q => k (.int q (q.wrap r))
def bitsI (op : BinOp) (k : IntKind) (x y : Int) : Option Int :=
  let a := BitVec.ofInt k.bits x
  let b := BitVec.ofInt k.bits y
  match op with
  | .and => some (k.wrap (a &&& b).toNat)
  | .or => some (k.wrap (a ||| b).toNat)
  | .xor => some (k.wrap (a ^^^ b).toNat)
  | .andNot => some (k.wrap (a &&& ~~~b).toNat)
  | _ => none
def intOp (op : BinOp) (q : IntKind) (a b : Int) (k : V → Bool) : Bool :=
  match op with
  | .add => mkInt q (a + b) k
  | .sub => mkInt q (a - b) k
  | .mul => mkInt q (a * b) k
  | .quo => !decide (b = 0) && mkInt q (a.tdiv b) k
  | .rem => !decide (b = 0) && k (.int q (a.tmod b))
  | .eql => k (.bool (a == b))
  | .neq => k (.bool (a != b))
  | .lss => k (.bool (decide (a < b)))
  | .leq => k (.bool (decide (a ≤ b)))
  | .gtr => k (.bool (decide (a > b)))
  | .geq => k (.bool (decide (a ≥ b)))
  | op => match bitsI op q a b with
    | some r => k (.int q r)
    | none => false
def fltOp (op : BinOp) (x y : Fl) (k : V → Bool) : Bool :=
  match op with
  | .add => k (.flt (fadd x y))
  | .sub => k (.flt (fsub x y))
  | .mul => k (.flt (fmul x y))
  | .quo => k (.flt (fdiv x y))
  | .eql => k (.bool (feq x y))
  | .neq => k (.bool (!feq x y))
  | .lss => k (.bool (flt x y))
  | .leq => k (.bool (fle x y))
  | .gtr => k (.bool (fgt x y))
  | .geq => k (.bool (fge x y))
  | _ => false
def isBoolT (P : Program) (t : Nat) : Bool :=
  match P.underlying t with
  | some .bool => true
  | _ => false
def binV (op : BinOp) (isB : Bool) (x y : V) (k : V → Bool) : Bool :=
  match op, x, y with
  | .shl, .int q a, .int _ b => decide (0 ≤ b) && mkInt q (a * 2 ^ (min b.toNat q.bits)) k
  | .shr, .int q a, .int _ b => decide (0 ≤ b) && k (.int q (a.fdiv (2 ^ (min b.toNat q.bits))))
  | op, .int q a, .int q' b => decide (q = q') && intOp op q a b k
  | op, .flt a, .flt b => fltOp op a b k
  | .eql, .bool a, .bool b => isB && k (.bool (a == b))
  | .neq, .bool a, .bool b => isB && k (.bool (a != b))
  | _, _, _ => false
def unV (op : UnOp) (x : V) (k : V → Bool) : Bool :=
  match op, x with
  | .not, .bool b => k (.bool (!b))
  | .neg, .int q n => mkInt q (0 - n) k
  | .neg, .flt x => k (.flt (fneg x))
  | .xor, .int q n => match bitsI .xor q (if q.signed then -1 else q.max) n with
    | some r => k (.int q r)
    | none => false
  | _, _ => false
def convV (P : Program) (src dst : Nat) (x : V) (k : V → Bool) : Bool :=
  match P.underlying src, P.underlying dst, x with
  | some _, some (.int q), .int _ n => mkInt q n k
  | some _, some (.float .f64), .int _ n => k (.flt (some (FloatKind.f64.nearest n)))
  | some _, some (.float .f64), .flt x => k (.flt x)
  | some _, some (.int q), .flt (some b) => match (Ieee.double.read b).toInt .zero with
    | some n => decide (q.min ≤ n ∧ n ≤ q.max) && k (.int q n)
    | none => false
  | _, _, _ => false

/-! ### slices -/
def Blk.count (b : Blk) : Nat := match b.sz with
  | 1 => b.c.size
  | s => b.c.size / s
def inR (i : Int) (n : Nat) : Bool := decide (0 ≤ i ∧ i < (n : Int))
def idxV (P : Program) (M : Heap) (t : Nat) (x : V) (i : Int) (k : V → Bool) : Bool :=
  match P.underlying t with
  | some (.slice e) => match szOf P e with
    | some s => match x with
      | .rof xs => s == 1 && (inR i xs.length && k (.pf xs i.toNat))
      | .roi q xs => s == 1 && (inR i xs.length && k (.pi q xs i.toNat))
      | .ro sz cs => s == sz && (!(s == 0) && (inR i (cs.length / sz) && k (.rp cs (scale i.toNat s))))
      | .slw n => match look M n with
        | some b => s == b.sz && (inR i b.count && k (.ptr n (scale i.toNat s)))
        | none => false
      | .sl n o len => match look M n with
        | some b => s == b.sz && (inR i len && k (.ptr n (o + scale i.toNat s)))
        | none => false
      | _ => false
    | none => false
  | some (.array len e) => match szOf P e with
    | some s => match x with
      | .ptr n o => inR i len && k (.ptr n (o + scale i.toNat s))
      | .rp cs o => inR i len && k (.rp cs (o + scale i.toNat s))
      | _ => false
    | none => false
  | _ => false
def lenV (P : Program) (M : Heap) (t : Nat) (x : V) (k : V → Bool) : Bool :=
  match P.underlying t, x with
  | some (.slice _), .nil => k (.int .i64 0)
  | some (.slice _), .rof xs => k (.int .i64 xs.length)
  | some (.slice _), .roi _ xs => k (.int .i64 xs.length)
  | some (.slice _), .ro sz cs => !(sz == 0) && k (.int .i64 (cs.length / sz : Nat))
  | some (.slice _), .slw n => match look M n with
    | some b => !(b.sz == 0) && k (.int .i64 b.count)
    | none => false
  | some (.slice _), .sl _ _ len => k (.int .i64 len)
  | some (.array n _), _ => k (.int .i64 n)
  | some .string, .val (.string s) => k (.int .i64 s.size)
  | _, _ => false

/-- the cells that an appended slice holds -/
def srcBody (M : Heap) (sz : Nat) (x : V) : Option Body :=
  match x with
  | .nil => some (.cells [])
  | .rof xs => cond (sz == 1) (some (.flts xs)) none
  | .roi q xs => cond (sz == 1) (some (.ints q xs)) none
  | .ro s cs => cond (s == sz) (some (.cells cs)) none
  | .slw n => match look M n with
    | some b => cond (b.sz == sz) (some b.c) none
    | none => none
  | .sl n o len => match look M n with
    | some b => cond (b.sz == sz) (b.c.cut o (scale len b.sz)) none
    | none => none
  | _ => none
def Body.app : Body → Body → Option Body
  | .flts xs, .flts ys => some (.flts (xs ++ ys))
  | .ints q xs, .ints q' ys => cond (decide (q = q')) (some (.ints q (xs ++ ys))) none
  | .cells xs, .cells ys => cond (ys.all V.one) (some (.cells (xs ++ ys))) none
  | b, .cells [] => some b
  | _, _ => none

end Go.Mach
