/-
  THE MACHINE, first part: what is proved: nothing yet; here stand the abstract values, blocks and the evaluator, a Bool-valued function over the model's Code.
  Conditions: none (definitions).
-/
import Derived.WalkKit
import Derived.Laws.FloatArith
import Derived.KernelRfl
namespace Go.Mach

/-! ### comparing whole numbers, so that a test of what is not known stands still at once -/
def ile : Int → Int → Bool
  | .ofNat a, .ofNat b => Nat.ble a b
  | .negSucc _, .ofNat _ => true
  | .ofNat _, .negSucc _ => false
  | .negSucc a, .negSucc b => Nat.ble b a
theorem ile_iff (a b : Int) : ile a b = true ↔ a ≤ b := by
  cases a <;> cases b <;> simp only [ile, Nat.ble_eq, Int.ofNat_eq_natCast, reduceCtorEq, true_iff, false_iff] <;> omega
theorem ilt_iff (a b : Int) : (!ile b a) = true ↔ a < b := by
  have := ile_iff b a
  cases h : ile b a <;> simp [h] at this ⊢ <;> omega
def decOfB {p : Prop} : (b : Bool) → (b = true ↔ p) → Decidable p
  | true, h => .isTrue (h.1 rfl)
  | false, h => .isFalse fun hp => by simpa using h.2 hp
instance (priority := 10000) decIntLe (a b : Int) : Decidable (a ≤ b) := decOfB (ile a b) (ile_iff a b)
instance (priority := 10000) decIntLt (a b : Int) : Decidable (a < b) := decOfB (!ile b a) (ilt_iff a b)

/-! ### floats up to the NaN's payload -/
abbrev Fl := Option Nat
def isNaN (b : Nat) : Bool := (Ieee.double.read b).isNaN
def canon (b : Nat) : Fl := cond (isNaN b) none (some b)
def fbin (f : Nat → Nat → Option Nat) : Fl → Fl → Fl
  | some a, some b => f a b
  | _, _ => none
def fadd (x y : Fl) : Fl := fbin Ieee.double.add x y
def fsub (x y : Fl) : Fl := fbin Ieee.double.sub x y
def fmul (x y : Fl) : Fl := fbin Ieee.double.mul x y
def fdiv (x y : Fl) : Fl := fbin Ieee.double.div x y
def fsqrt : Fl → Fl
  | some a => Ieee.double.sqrt a
  | none => none
def fneg : Fl → Fl
  | some a => some (Op.negFloat .f64 a)
  | none => none
def ford : Fl → Fl → Option Ordering
  | some a, some b => Ieee.double.order a b
  | _, _ => none
def feq (x y : Fl) : Bool := ford x y == some .eq
def flt (x y : Fl) : Bool := ford x y == some .lt
def fgt (x y : Fl) : Bool := ford x y == some .gt
def fle (x y : Fl) : Bool := ford x y == some .lt || ford x y == some .eq
def fge (x y : Fl) : Bool := ford x y == some .gt || ford x y == some .eq

/-! ### abstract values -/
inductive V where
  | any
  | nil
  | bool (b : Bool)
  | int (k : IntKind) (n : Int)
  | flt (x : Fl)
  | val (v : Value)
  | fn (f : Nat) (caps : List V)
  | ptr (n o : Nat)
  | slw (n : Nat)
  | sl (n o len : Nat)
  | rof (xs : List Fl)
  | roi (k : IntKind) (xs : List Int)
  | ro (sz : Nat) (cs : List V)
  | pf (xs : List Fl) (i : Nat)
  | pi (k : IntKind) (xs : List Int) (i : Nat)
  | rp (cs : List V) (i : Nat)
  | agg (cs : List V)
  | tup (vs : List V)
  deriving Inhabited

/-- what a cell may hold -/
def V.one : V → Bool
  | .any | .agg _ | .tup _ => false
  | .val v => v.oneCell'
  | _ => true

inductive Body where
  | flts (xs : List Fl)
  | ints (k : IntKind) (xs : List Int)
  | cells (cs : List V)
  deriving Inhabited

def Body.size : Body → Nat
  | .flts xs => xs.length
  | .ints _ xs => xs.length
  | .cells cs => cs.length

/-- a block: its element type, the cells of one element, what it holds -/
structure Blk where
  e : Nat
  sz : Nat
  c : Body
  deriving Inhabited

abbrev Heap := List (Option Blk)

def look (M : Heap) (n : Nat) : Option Blk :=
  match M[n]? with
  | some (some b) => some b
  | _ => none

/-! ### what a value that stands in the text is -/
def ofVal1 : Value → V
  | .bool b => .bool b
  | .int k n => .int k n
  | .float .f64 b => .flt (canon b)
  | .slice none 0 0 => .nil
  | .agg cs => .val (.agg cs)
  | v => .val v
def ofVal (v : Value) : V := ofVal1 v

def ev (F : List V) : Operand → V
  | .tmp t => F.getD t .any
  | .const v => ofVal v
  | .global g => .val (.pointer (some ⟨g, 0, none⟩))
  | .func f => .fn f []

/-! ### types -/
def elemOf (P : Program) (t : Nat) : Option Nat :=
  match P.underlying t with
  | some (.slice e) => some e
  | _ => none
def szOf (P : Program) (t : Nat) : Option Nat := (P.info? t).map (·.size)
def bytesOf (P : Program) (t : Nat) : Option Nat := (P.info? t).map (·.bytes)
def isAggT (P : Program) (t : Nat) : Option Bool :=
  match P.underlying t with
  | some (.struct _) | some (.array _ _) => some true
  | some _ => some false
  | none => none
/-- a type's nought, cell by cell -/
def zeroCellsOf (P : Program) (t : Nat) : Option (List V) :=
  match P.info? t with
  | some i => i.zero.map fun v => v.cells.toList.map ofVal1
  | none => none

/-- the cells of a value that is stored -/
def vcells : V → Option (List V)
  | .agg cs => some cs
  | v => cond v.one (some [v]) none

/-- floats of cells, if they all are -/
def allFl : List V → Option (List Fl)
  | [] => some []
  | .flt x :: r => (allFl r).map (x :: ·)
  | _ => none
def allInt (k : IntKind) : List V → Option (List Int)
  | [] => some []
  | .int k' n :: r => cond (decide (k' = k)) ((allInt k r).map (n :: ·)) none
  | _ => none

/-- the body of a new row of elements of type e -/
def mkBody (P : Program) (e : Nat) (cs : List V) : Option Body :=
  match P.underlying e with
  | some (.float .f64) => (allFl cs).map .flts
  | some (.int k) => (allInt k cs).map (.ints k)
  | some _ => cond (cs.all V.one) (some (.cells cs)) none
  | none => none

/-- n noughts of type e -/
def zeroBody (P : Program) (e n : Nat) : Option Body :=
  match P.underlying e, zeroCellsOf P e with
  | some (.float .f64), some [.flt x] => some (.flts (List.replicate n x))
  | some (.int k), some [.int k' x] => cond (decide (k' = k)) (some (.ints k (List.replicate n x))) none
  | some _, some z => some (.cells ((List.replicate n z).flatten))
  | _, _ => none

/-! ### reading and writing a body, in continuation-passing style -/
def Body.get (b : Body) (o : Nat) (k : V → Bool) : Bool :=
  match b with
  | .flts xs => decide (o < xs.length) && k (.flt (xs.getD o none))
  | .ints q xs => decide (o < xs.length) && k (.int q (xs.getD o 0))
  | .cells cs => match cs[o]? with
    | some v => k v
    | none => false
def Body.set (b : Body) (o : Nat) (v : V) (k : Body → Bool) : Bool :=
  match b, v with
  | .flts xs, .flt x => decide (o < xs.length) && k (.flts (xs.set o x))
  | .ints q xs, .int q' n => decide (q = q') && (decide (o < xs.length) && k (.ints q (xs.set o n)))
  | .cells cs, v => match cs[o]? with
    | some _ => v.one && k (.cells (cs.set o v))
    | none => false
  | _, _ => false
/-- s cells from o on -/
def Body.part (b : Body) (o s : Nat) (k : List V → Bool) : Bool :=
  match b with
  | .cells cs => decide (o + s ≤ cs.length) && k ((cs.drop o).take s)
  | .flts xs => decide (o + s ≤ xs.length) && k (((xs.drop o).take s).map .flt)
  | .ints q xs => decide (o + s ≤ xs.length) && k (((xs.drop o).take s).map (.int q))
def setFrom {α : Type} : List α → Nat → List α → List α
  | cs, _, [] => cs
  | cs, o, v :: r => setFrom (cs.set o v) (o + 1) r
def Body.setPart (b : Body) (o : Nat) (vs : List V) (k : Body → Bool) : Bool :=
  match b with
  | .cells cs => decide (o + vs.length ≤ cs.length) && (vs.all V.one && k (.cells (setFrom cs o vs)))
  | _ => false

end Go.Mach
