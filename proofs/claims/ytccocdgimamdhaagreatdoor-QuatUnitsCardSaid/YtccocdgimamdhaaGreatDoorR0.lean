/-
  PURE: laws of the seat's functions, taken over from another seat of mine.
  Conditions: none.
-/
import Derived.Test.YtccocdgimamdhaaGreatDoorQ1
namespace Go.Proofs.YtccocdgimamdhaaGreatDoor
open Go Go.Mach
set_option linter.unusedVariables false

set_option linter.unusedVariables false

theorem cond_k (b : Bool) (k : Bool -> Bool) : cond b (k true) (k false) = k b := by cases b <;> rfl
theorem and_true_of {a c : Bool} (h : a = true) : (a && c) = c := by rw [h]; rfl
def Small (N n : Nat) : Prop := n < N /\ n <= 17592186044416
def allFin (xs : List Fl) : Bool := allN (fun i => finF (xs.getD i none)) xs.length
theorem law_Finite {N : Nat} (xs : List Fl) (hl : Small N xs.length) (k : Bool -> Bool) : sj121 N xs k = k (allFin xs) := by
  unfold sj121 Gj121 sj159
  rw [<- cond_k (allFin xs) k]
  refine (iterG_all (fun i => (i : Int)) (fun i => finF (xs.getD i none)) xs.length hl.1 (fun i hi K => ?_) (fun K => ?_) : _)
  · have h2 := hl.2
    simp only [st_an_Finite_0, Int.toNat_natCast]
    rw [dec_true (by omega), cond_true, and_true_of (inR_of (by omega) (by omega)), and_true_of (fits_ok (by omega) (by omega))]
    have hc := clsF_fin (xs.getD i none)
    generalize clsF (xs.getD i none) = c at hc ⊢
    generalize finF (xs.getD i none) = f at hc ⊢
    have d1 : (c == 1) = decide (c = 1) := rfl
    have d2 : (c == 2) = decide (c = 2) := rfl
    rw [d1, d2]
    generalize decide (c = 1) = u at *
    generalize decide (c = 2) = v at *
    cases u <;> cases v <;> cases f <;> first | rfl | cases hc
  · simp only [st_an_Finite_0]
    rw [dec_false (by omega), cond_false]
def bitsF : Fl -> Nat
  | none => 9221120237041090561
  | some b => cnb b
theorem order_self (d : Ieee.Datum) (h : d.isNaN = false) : d.order d = some .eq := by
  cases d with
  | nan s t => cases h
  | infinity s => simp [Ieee.Datum.order, compare, compareOfLessAndEq]
  | number s m i => simp [Ieee.Datum.order, compare, compareOfLessAndEq]
theorem feq_self' (b : Nat) (h : isNaN b = false) : (Ieee.double.order b b == some .eq) = true := by
  unfold Ieee.Format.order
  rw [order_self _ h]; rfl
theorem feq_self (b : Nat) : feq (some b) (some b) = !isNaN b := by
  cases h : isNaN b with
  | true => simp [feq, ford, order_nan_left b h]
  | false => simp only [feq, ford, Bool.not_false]; exact feq_self' b h
theorem law_Bits (N : Nat) (x : Fl) (k : Int -> Bool) : sj144 N x k = k (bitsF x) := by
  unfold sj144 Gj144 sj106
  cases x with
  | none => rfl
  | some b =>
    rw [feq_self]
    simp only [bitsF, cnb]
    cases isNaN b <;> rfl
theorem nat_tmod (a b : Nat) : Int.tmod (a : Int) (b : Int) = ((a % b : Nat) : Int) := by
  rw [Int.tmod_eq_emod_of_nonneg (by omega)]; rfl
theorem law_Split (N : Nat) (x : Fl) (k : Bool -> Int -> Int -> Bool) : sj105 N x k = k (Int.fdiv (bitsF x : Int) (2 ^ 63) == 1) ((bitsF x / 4503599627370496 % 2048 : Nat) : Int) ((bitsF x % 4503599627370496 : Nat) : Int) := by
  unfold sj105 Gj105
  simp only [law_Bits]
  have e1 : (2 : Int) ^ 52 = ((4503599627370496 : Nat) : Int) := by decide
  have e2 : (2048 : Int) = ((2048 : Nat) : Int) := rfl
  have e3 : (4503599627370496 : Int) = ((4503599627370496 : Nat) : Int) := rfl
  rw [e1, e2, e3, nat_fdiv, nat_tmod, nat_tmod, fits_ok (by omega) (by omega)]
  rfl
theorem clsF_bits (x : Fl) : clsF x = if (bitsF x / 4503599627370496 % 2048) = 2047 then (if bitsF x % 4503599627370496 = 0 then 2 else 1) else if bitsF x / 4503599627370496 % 2048 = 0 then (if bitsF x % 4503599627370496 = 0 then 3 else 4) else 5 := by
  cases x with
  | none => decide
  | some b => exact cls_cnb b
theorem law_ref_Class (N : Nat) (x : Fl) (k : Int -> Bool) : sj166 N x k = k (clsF x) := by
  unfold sj166 Gj166 sj127 Gj127
  simp only [law_Split, clsF_bits x]
  generalize bitsF x / 4503599627370496 % 2048 = e
  generalize bitsF x % 4503599627370496 = f
  have d1 : ((e : Int) == 2047) = decide (e = 2047) := by rw [Bool.eq_iff_iff, beq_iff_eq, decide_eq_true_iff]; omega
  have d2 : ((e : Int) == 0) = decide (e = 0) := by rw [Bool.eq_iff_iff, beq_iff_eq, decide_eq_true_iff]; omega
  have d3 : ((f : Int) == 0) = decide (f = 0) := by rw [Bool.eq_iff_iff, beq_iff_eq, decide_eq_true_iff]; omega
  simp only [bne, d1, d2, d3]
  by_cases h1 : e = 2047 <;> by_cases h2 : e = 0 <;> by_cases h3 : f = 0 <;> simp [h1, h2, h3]
theorem law_ref_Finite (N : Nat) (x : Fl) (k : Bool -> Bool) : sj87 N x k = k (finF x) := by
  unfold sj87 Gj87
  simp only [law_ref_Class]
  congr 1
  have h1 := clsF_fin x
  have h2 := clsF_lo x
  rw [Bool.eq_iff_iff, decide_eq_true_iff]
  cases hf : finF x with
  | true =>
    rw [hf] at h1
    simp only [Bool.not_true, Bool.or_eq_false_iff, decide_eq_false_iff_not] at h1
    exact ⟨fun _ => rfl, fun _ => by omega⟩
  | false =>
    rw [hf] at h1
    simp only [Bool.not_false, Bool.or_eq_true, decide_eq_true_eq] at h1
    exact ⟨fun _ => by omega, fun h => by cases h⟩
theorem law_AllFinite {N : Nat} (xs : List Fl) (hl : Small N xs.length) (k : Bool -> Bool) : sj107 N xs k = k (allFin xs) := by
  unfold sj107 Gj107
  rw [<- cond_k (allFin xs) k]
  refine (iterG_all (fun i => (i : Int)) (fun i => finF (xs.getD i none)) xs.length hl.1 (fun i hi K => ?_) (fun K => ?_) : _)
  · have h2 := hl.2
    simp only [stj238, Int.toNat_natCast, law_ref_Finite]
    rw [dec_true (by omega), cond_true, and_true_of (inR_of (by omega) (by omega)), and_true_of (fits_ok (by omega) (by omega))]
    cases finF (xs.getD i none) <;> rfl
  · simp only [stj238]
    rw [dec_false (by omega), cond_false]
theorem iterG_eq0 {σ : Type} {step : σ -> (σ -> Bool) -> Bool} {s : σ} (C : Nat -> σ) (n : Nat) {N : Nat} (h0 : s = C 0) (hn : n < N) {out : Bool} (hs : ∀ i, i < n -> ∀ K : σ -> Bool, step (C i) K = K (C (i + 1))) (hx : ∀ K, step (C n) K = out) : iterG N step s = out := by
  subst h0; exact iterG_eq C n hn hs hx
def elt (xs : List Fl) (n i j : Nat) : Fl := xs.getD (i * n + j) none
end Go.Proofs.YtccocdgimamdhaaGreatDoor
