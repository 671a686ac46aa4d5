/-
  PURE: laws of the seat's functions, taken over from another seat of mine.
  Conditions: none.
-/
import Derived.Test.YtccocdgimamdhaaGreatDoorQ1
namespace Go.Proofs.YtccocdgimamdhaaGreatDoor
open Go Go.Mach
set_option linter.unusedVariables false

theorem cond_k (b : Bool) (k : Bool -> Bool) : cond b (k true) (k false) = k b := by cases b <;> rfl
theorem and_true_of {a c : Bool} (h : a = true) : (a && c) = c := by rw [h]; rfl
def Small (N n : Nat) : Prop := n < N /\ n <= 17592186044416
def of64 (l : List Int) : List Fl := l.map fun n => canon n.toNat
theorem of64_length (l : List Int) : (of64 l).length = l.length := by simp [of64]
theorem law_Of64 {N : Nat} (l : List Int) (hl : Small N l.length) (k : List Fl -> Bool) : s_q162 N l k = k (of64 l) := by
  unfold s_q162 G_q162 s_q70
  refine (iterG_eq (fun i => ((i : Int), (l.take i).map fun n => canon n.toNat)) l.length hl.1 (fun i hi K => ?_) (fun K => ?_) : _)
  · have h2 := hl.2
    have e1 : (l.take (i + 1)).map (fun n => canon n.toNat) = (l.take i).map (fun n => canon n.toNat) ++ [canon (l.getD i 0).toNat] := by
      rw [List.take_succ_eq_append_getElem hi, List.map_append, List.getD_eq_getElem?_getD, List.getElem?_eq_getElem hi]; rfl
    simp only [st_z01_Of64_0, Int.toNat_natCast]
    rw [dec_true (by omega), cond_true, and_true_of (inR_of (by omega) (by omega)), and_true_of (dec_true (by simp; omega)), and_true_of (fits_ok (by omega) (by omega)), e1]
    rfl
  · simp only [st_z01_Of64_0]
    rw [dec_false (by omega), cond_false, List.take_length]; rfl
def allFin (xs : List Fl) : Bool := allN (fun i => finF (xs.getD i none)) xs.length
theorem law_Finite {N : Nat} (xs : List Fl) (hl : Small N xs.length) (k : Bool -> Bool) : s_q93 N xs k = k (allFin xs) := by
  unfold s_q93 G_q93 s_q147
  rw [<- cond_k (allFin xs) k]
  refine (iterG_all (fun i => (i : Int)) (fun i => finF (xs.getD i none)) xs.length hl.1 (fun i hi K => ?_) (fun K => ?_) : _)
  · have h2 := hl.2
    simp only [st_an_Finite_0, Int.toNat_natCast]
    rw [dec_true (by omega), cond_true, and_true_of (inR_of (by omega) (by omega)), and_true_of (fits_ok (by omega) (by omega))]
    have hc := clsF_fin (xs.getD i none)
    generalize clsF (xs.getD i none) = c at hc ⊢
    generalize finF (xs.getD i none) = f at hc ⊢
    have d1 : (c == 1) = decide (c = 1) := rfl
    have d2 : (c == 2) = decide (c = 2) := rfl
    rw [d1, d2]
    generalize decide (c = 1) = u at *
    generalize decide (c = 2) = v at *
    cases u <;> cases v <;> cases f <;> first | rfl | cases hc
  · simp only [st_an_Finite_0]
    rw [dec_false (by omega), cond_false]
def bitsF : Fl -> Nat
  | none => 9221120237041090561
  | some b => cnb b
theorem order_self (d : Ieee.Datum) (h : d.isNaN = false) : d.order d = some .eq := by
  cases d with
  | nan s t => cases h
  | infinity s => simp [Ieee.Datum.order, compare, compareOfLessAndEq]
  | number s m i => simp [Ieee.Datum.order, compare, compareOfLessAndEq]
theorem feq_self' (b : Nat) (h : isNaN b = false) : (Ieee.double.order b b == some .eq) = true := by
  unfold Ieee.Format.order
  rw [order_self _ h]; rfl
theorem feq_self (b : Nat) : feq (some b) (some b) = !isNaN b := by
  cases h : isNaN b with
  | true => simp [feq, ford, order_nan_left b h]
  | false => simp only [feq, ford, Bool.not_false]; exact feq_self' b h
theorem law_Bits (N : Nat) (x : Fl) (k : Int -> Bool) : s_q114 N x k = k (bitsF x) := by
  unfold s_q114 G_q114 s_q103
  cases x with
  | none => rfl
  | some b =>
    rw [feq_self]
    simp only [bitsF, cnb]
    cases isNaN b <;> rfl
theorem nat_tmod (a b : Nat) : Int.tmod (a : Int) (b : Int) = ((a % b : Nat) : Int) := by
  rw [Int.tmod_eq_emod_of_nonneg (by omega)]; rfl
theorem law_Split (N : Nat) (x : Fl) (k : Bool -> Int -> Int -> Bool) : s_q151 N x k = k (Int.fdiv (bitsF x : Int) (2 ^ 63) == 1) ((bitsF x / 4503599627370496 % 2048 : Nat) : Int) ((bitsF x % 4503599627370496 : Nat) : Int) := by
  unfold s_q151 G_q151
  simp only [law_Bits]
  have e1 : (2 : Int) ^ 52 = ((4503599627370496 : Nat) : Int) := by decide
  have e2 : (2048 : Int) = ((2048 : Nat) : Int) := rfl
  have e3 : (4503599627370496 : Int) = ((4503599627370496 : Nat) : Int) := rfl
  rw [e1, e2, e3, nat_fdiv, nat_tmod, nat_tmod, fits_ok (by omega) (by omega)]
  rfl
theorem clsF_bits (x : Fl) : clsF x = if (bitsF x / 4503599627370496 % 2048) = 2047 then (if bitsF x % 4503599627370496 = 0 then 2 else 1) else if bitsF x / 4503599627370496 % 2048 = 0 then (if bitsF x % 4503599627370496 = 0 then 3 else 4) else 5 := by
  cases x with
  | none => decide
  | some b => exact cls_cnb b
theorem law_ref_Class (N : Nat) (x : Fl) (k : Int -> Bool) : s_q150 N x k = k (clsF x) := by
  unfold s_q150 G_q150 s_q119 G_q119
  simp only [law_Split, clsF_bits x]
  generalize bitsF x / 4503599627370496 % 2048 = e
  generalize bitsF x % 4503599627370496 = f
  have d1 : ((e : Int) == 2047) = decide (e = 2047) := by rw [Bool.eq_iff_iff, beq_iff_eq, decide_eq_true_iff]; omega
  have d2 : ((e : Int) == 0) = decide (e = 0) := by rw [Bool.eq_iff_iff, beq_iff_eq, decide_eq_true_iff]; omega
  have d3 : ((f : Int) == 0) = decide (f = 0) := by rw [Bool.eq_iff_iff, beq_iff_eq, decide_eq_true_iff]; omega
  simp only [bne, d1, d2, d3]
  by_cases h1 : e = 2047 <;> by_cases h2 : e = 0 <;> by_cases h3 : f = 0 <;> simp [h1, h2, h3]
theorem law_ref_Finite (N : Nat) (x : Fl) (k : Bool -> Bool) : s_q48 N x k = k (finF x) := by
  unfold s_q48 G_q48
  simp only [law_ref_Class]
  congr 1
  have h1 := clsF_fin x
  have h2 := clsF_lo x
  rw [Bool.eq_iff_iff, decide_eq_true_iff]
  cases hf : finF x with
  | true =>
    rw [hf] at h1
    simp only [Bool.not_true, Bool.or_eq_false_iff, decide_eq_false_iff_not] at h1
    exact ⟨fun _ => rfl, fun _ => by omega⟩
  | false =>
    rw [hf] at h1
    simp only [Bool.not_false, Bool.or_eq_true, decide_eq_true_eq] at h1
    exact ⟨fun _ => by omega, fun h => by cases h⟩
theorem law_AllFinite {N : Nat} (xs : List Fl) (hl : Small N xs.length) (k : Bool -> Bool) : s_q50 N xs k = k (allFin xs) := by
  unfold s_q50 G_q50
  rw [<- cond_k (allFin xs) k]
  refine (iterG_all (fun i => (i : Int)) (fun i => finF (xs.getD i none)) xs.length hl.1 (fun i hi K => ?_) (fun K => ?_) : _)
  · have h2 := hl.2
    simp only [st_q221, Int.toNat_natCast, law_ref_Finite]
    rw [dec_true (by omega), cond_true, and_true_of (inR_of (by omega) (by omega)), and_true_of (fits_ok (by omega) (by omega))]
    cases finF (xs.getD i none) <;> rfl
  · simp only [st_q221]
    rw [dec_false (by omega), cond_false]
theorem iterG_eq0 {σ : Type} {step : σ -> (σ -> Bool) -> Bool} {s : σ} (C : Nat -> σ) (n : Nat) {N : Nat} (h0 : s = C 0) (hn : n < N) {out : Bool} (hs : ∀ i, i < n -> ∀ K : σ -> Bool, step (C i) K = K (C (i + 1))) (hx : ∀ K, step (C n) K = out) : iterG N step s = out := by
  subst h0; exact iterG_eq C n hn hs hx
theorem ne_dec (a b : Int) : (a != b) = !decide (a = b) := rfl

theorem law_size (N : Nat) (n : Int) (k : Bool -> Bool) : s_q126 N n k = k (decide (0 <= n /\ n <= 12)) := by
  unfold s_q126 G_q126
  by_cases h1 : 0 <= n
  · rw [dec_true (p := n >= 0) h1]; simp [h1]
  · rw [dec_false (p := n >= 0) h1]; simp [h1]

def chk (r c : Int) (xs : List Fl) : Int := if (0 <= r /\ r <= 12) /\ (0 <= c /\ c <= 12) then (if (xs.length : Int) = r * c then (if allFin xs = true then 0 else 4) else 3) else 1
theorem rc_fits {r c : Int} (hr : 0 <= r /\ r <= 12) (hc : 0 <= c /\ c <= 12) : fits .i64 (r * c) = true := by
  have h1 : 0 <= r * c := Int.mul_nonneg hr.1 hc.1
  have h2 : r * c <= 12 * 12 := Int.mul_le_mul hr.2 hc.2 hc.1 (by decide)
  exact fits_ok (by omega) (by omega)
theorem law_Check {N : Nat} (r c : Int) (xs : List Fl) (hl : Small N xs.length) (k : Int -> Bool) : s_q75 N r c xs k = k (chk r c xs) := by
  unfold s_q75 G_q75 chk
  simp only [law_size, law_Finite xs hl]
  by_cases hr : 0 <= r /\ r <= 12
  · by_cases hc : 0 <= c /\ c <= 12
    · rw [dec_true hr, dec_true hc, if_pos ⟨hr, hc⟩, ne_dec, rc_fits hr hc]
      by_cases hx : (xs.length : Int) = r * c
      · rw [dec_true hx, if_pos hx]; cases allFin xs <;> rfl
      · rw [dec_false hx, if_neg hx]; rfl
    · rw [dec_true hr, dec_false hc, if_neg (fun h => hc h.2)]; rfl
  · rw [dec_false hr, if_neg (fun h => hr h.1)]; rfl
theorem law_ref_Check {N : Nat} (r c : Int) (xs : List Fl) (hl : Small N xs.length) (k : Int -> Bool) : s_q94 N r c xs k = k (chk r c xs) := by
  unfold s_q94 G_q94 chk
  simp only [law_AllFinite xs hl]
  by_cases hr : 0 <= r /\ r <= 12
  · by_cases hc : 0 <= c /\ c <= 12
    · rw [if_pos ⟨hr, hc⟩, ne_dec, rc_fits hr hc, dec_false (p := r < 0) (by omega), dec_false (p := r > 12) (by omega), dec_false (p := c < 0) (by omega), dec_false (p := c > 12) (by omega)]
      by_cases hx : (xs.length : Int) = r * c
      · rw [dec_true hx, if_pos hx]; cases allFin xs <;> rfl
      · rw [dec_false hx, if_neg hx]; rfl
    · rw [if_neg (fun h => hc h.2), dec_false (p := r < 0) (by omega), dec_false (p := r > 12) (by omega)]
      by_cases h : c < 0
      · rw [dec_true h]; rfl
      · rw [dec_false h, dec_true (p := c > 12) (by omega)]; rfl
  · rw [if_neg (fun h => hr h.1)]
    by_cases h : r < 0
    · rw [dec_true h]; rfl
    · rw [dec_false h, dec_true (p := r > 12) (by omega)]; rfl
theorem chk_zero {r c : Int} {xs : List Fl} : chk r c xs = 0 ↔ ((0 <= r /\ r <= 12) /\ (0 <= c /\ c <= 12)) /\ (xs.length : Int) = r * c /\ allFin xs = true := by
  unfold chk
  split
  · split
    · split
      · simp [*]
      · simp [*]
    · simp [*]
  · simp [*]

theorem law_First2 {N : Nat} (a b : Int) (hN : 14 < N) (k : Int -> Bool) : s_q85 N [a, b] k = k (if a ≠ 0 then a else b) := by
  obtain ⟨M, rfl⟩ : ∃ M, N = M + 10 := ⟨N - 10, by omega⟩
  have : s_q85 (M + 10) [a, b] k = cond (a != 0) (k a) (cond (b != 0) (k b) (k 0)) := by kernel_rfl
  rw [this, ne_dec, ne_dec]
  by_cases h1 : a = 0 <;> by_cases h2 : b = 0 <;> simp [h1, h2]
end Go.Proofs.YtccocdgimamdhaaGreatDoor
