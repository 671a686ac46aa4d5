/-
  PURE: laws of the seat's functions, taken over from another seat of mine.
  Conditions: none.
-/
import Derived.Test.YtccocdgimamdhaaGreatDoorQ1
namespace Go.Proofs.YtccocdgimamdhaaGreatDoor
open Go Go.Mach
set_option linter.unusedVariables false

set_option linter.unusedVariables false

theorem cond_k (b : Bool) (k : Bool -> Bool) : cond b (k true) (k false) = k b := by cases b <;> rfl
theorem and_true_of {a c : Bool} (h : a = true) : (a && c) = c := by rw [h]; rfl
def Small (N n : Nat) : Prop := n < N /\ n <= 17592186044416
def allFin (xs : List Fl) : Bool := allN (fun i => finF (xs.getD i none)) xs.length
def bitsF : Fl -> Nat
  | none => 9221120237041090561
  | some b => cnb b
theorem order_self (d : Ieee.Datum) (h : d.isNaN = false) : d.order d = some .eq := by
  cases d with
  | nan s t => cases h
  | infinity s => simp [Ieee.Datum.order, compare, compareOfLessAndEq]
  | number s m i => simp [Ieee.Datum.order, compare, compareOfLessAndEq]
theorem feq_self' (b : Nat) (h : isNaN b = false) : (Ieee.double.order b b == some .eq) = true := by
  unfold Ieee.Format.order
  rw [order_self _ h]; rfl
theorem feq_self (b : Nat) : feq (some b) (some b) = !isNaN b := by
  cases h : isNaN b with
  | true => simp [feq, ford, order_nan_left b h]
  | false => simp only [feq, ford, Bool.not_false]; exact feq_self' b h
theorem law_Bits (N : Nat) (x : Fl) (k : Int -> Bool) : s_q122 N x k = k (bitsF x) := by
  unfold s_q122 G_q122 s_q90
  cases x with
  | none => rfl
  | some b =>
    rw [feq_self]
    simp only [bitsF, cnb]
    cases isNaN b <;> rfl
theorem nat_tmod (a b : Nat) : Int.tmod (a : Int) (b : Int) = ((a % b : Nat) : Int) := by
  rw [Int.tmod_eq_emod_of_nonneg (by omega)]; rfl
theorem law_Split (N : Nat) (x : Fl) (k : Bool -> Int -> Int -> Bool) : s_q87 N x k = k (Int.fdiv (bitsF x : Int) (2 ^ 63) == 1) ((bitsF x / 4503599627370496 % 2048 : Nat) : Int) ((bitsF x % 4503599627370496 : Nat) : Int) := by
  unfold s_q87 G_q87
  simp only [law_Bits]
  have e1 : (2 : Int) ^ 52 = ((4503599627370496 : Nat) : Int) := by decide
  have e2 : (2048 : Int) = ((2048 : Nat) : Int) := rfl
  have e3 : (4503599627370496 : Int) = ((4503599627370496 : Nat) : Int) := rfl
  rw [e1, e2, e3, nat_fdiv, nat_tmod, nat_tmod, fits_ok (by omega) (by omega)]
  rfl
theorem iterG_eq0 {σ : Type} {step : σ -> (σ -> Bool) -> Bool} {s : σ} (C : Nat -> σ) (n : Nat) {N : Nat} (h0 : s = C 0) (hn : n < N) {out : Bool} (hs : ∀ i, i < n -> ∀ K : σ -> Bool, step (C i) K = K (C (i + 1))) (hx : ∀ K, step (C n) K = out) : iterG N step s = out := by
  subst h0; exact iterG_eq C n hn hs hx
end Go.Proofs.YtccocdgimamdhaaGreatDoor
