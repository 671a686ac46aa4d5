/-
  PURE: what looks at a float's bits: its class, whether two are the same, its amount.
  Conditions: none.
-/
import Derived.Test.YtccocdgimamdhaaGreatDoorGp
section
namespace Go.Proofs.YtccocdgimamdhaaGreatDoor
open Go Go.Mach

theorem nat_fdiv (a b : Nat) : Int.fdiv (a : Int) (b : Int) = ((a / b : Nat) : Int) := by
  rw [Int.fdiv_eq_ediv_of_nonneg _ (by omega)]; rfl
theorem law_format_sign (N : Nat) (k : Int → Bool) : s_q167 N 52 2047 1075 k = k 9223372036854775808 := by rfl
theorem law_format_infinite (N : Nat) (k : Int → Bool) : s_q96 N 52 2047 1075 k = k 9218868437227405312 := by rfl
theorem law_format_hidden (N : Nat) (k : Int → Bool) : s_q80 N 52 2047 1075 k = k 4503599627370496 := by rfl
theorem law_format_none (N : Nat) (k : Int → Bool) : s_q184 N 52 2047 1075 k = k 9221120237041090561 := by
  unfold s_q184 G_q184
  simp only [law_format_infinite, law_format_hidden]
  exact congrArg k (by decide)
theorem law_nan (N : Nat) (b : Nat) (k : Bool → Bool) : s_q93 N b 52 2047 1075 k = k (isNaN b) := by
  unfold s_q93 G_q93
  simp only [law_format_sign, law_format_infinite, bitsN_andNot_top]
  congr 1
  rw [Bool.eq_iff_iff, decide_eq_true_iff, isNaN_iff]
  omega
def cnb (b : Nat) : Nat := if isNaN b then 9221120237041090561 else b
theorem law_canon (N : Nat) (b : Nat) (k : Int → Bool) : s_q75 N b 52 2047 1075 k = k (cnb b) := by
  unfold s_q75 G_q75
  simp only [law_nan, law_format_none, cnb]
  cases isNaN b <;> rfl
theorem law_split (N : Nat) (b : Nat) (k : Bool → Int → Int → Bool) : s_q29 N b 52 2047 1075 k = k (bitsN .and .u64 (cnb b) 9223372036854775808 != 0) ((cnb b / 4503599627370496 % 2048 : Nat) : Int) ((cnb b % 4503599627370496 : Nat) : Int) := by
  unfold s_q29 G_q29
  simp only [law_canon, law_format_sign, law_format_hidden]
  have e1 : (2 : Int) ^ (min (Int.toNat 52) 64) = ((4503599627370496 : Nat) : Int) := by decide
  have e2 : IntKind.wrap .u64 2047 = ((2 ^ 11 - 1 : Nat) : Int) := by decide
  have e3 : IntKind.wrap .u64 (4503599627370496 - 1) = ((2 ^ 52 - 1 : Nat) : Int) := by decide
  have e4 : decide ((0 : Int) ≤ 52) = true := by decide
  rw [e1, nat_fdiv, e2, e3, bitsN_and_mask _ _ (by decide), bitsN_and_mask _ _ (by decide), e4, fits_ok (by omega) (by omega)]
  rfl
theorem cls_cnb (b : Nat) : cls b = if (cnb b / 4503599627370496 % 2048) = 2047 then (if cnb b % 4503599627370496 = 0 then 2 else 1) else if cnb b / 4503599627370496 % 2048 = 0 then (if cnb b % 4503599627370496 = 0 then 3 else 4) else 5 := by
  unfold cls cnb
  by_cases h : isNaN b = true
  · rw [if_pos h, if_pos h]; decide
  · rw [if_neg h, if_neg h]
    have hn : ¬ (9218868437227405312 < b % 9223372036854775808) := fun q => h ((isNaN_iff b).2 q)
    by_cases h1 : b / 4503599627370496 % 2048 = 2047
    · rw [if_pos h1, if_pos h1, if_pos (by omega)]
    · rw [if_neg h1, if_neg h1]
theorem law_class (N : Nat) (b : Nat) (k : Int → Bool) : s_q28 N b 52 2047 1075 k = k (cls b) := by
  unfold s_q28 G_q28
  simp only [law_split, cls_cnb b]
  generalize cnb b / 4503599627370496 % 2048 = e
  generalize cnb b % 4503599627370496 = f
  have d1 : ((e : Int) == 2047) = decide (e = 2047) := by rw [Bool.eq_iff_iff, beq_iff_eq, decide_eq_true_iff]; omega
  have d2 : ((e : Int) == 0) = decide (e = 0) := by rw [Bool.eq_iff_iff, beq_iff_eq, decide_eq_true_iff]; omega
  have d3 : ((f : Int) == 0) = decide (f = 0) := by rw [Bool.eq_iff_iff, beq_iff_eq, decide_eq_true_iff]; omega
  simp only [bne, d1, d2, d3]
  by_cases h1 : e = 2047 <;> by_cases h2 : e = 0 <;> by_cases h3 : f = 0 <;> simp [h1, h2, h3]
theorem law_Class (N : Nat) (b : Nat) (k : Int → Bool) : s_q170 N b k = k (cls b) := by
  unfold s_q170 G_q170
  simp only [s_q166, s_an_of, G_an_of, law_class]
theorem cnb_cn (a b : Nat) (_ha : a < 18446744073709551616 ∨ True) : decide ((cnb a : Int) = cnb b) = decide (cn (some a) = cn (some b)) := by
  have hq : isNaN 9221120237041090561 = true := by decide
  rw [Bool.eq_iff_iff, decide_eq_true_iff, decide_eq_true_iff]
  have cf : ∀ c, cn (some c) = if isNaN c = true then none else some c := fun _ => rfl
  rw [cf, cf]
  unfold cnb
  by_cases h1 : isNaN a = true <;> by_cases h2 : isNaN b = true
  · simp [h1, h2]
  · rw [if_pos h1, if_neg h2, if_pos h1, if_neg h2]
    refine ⟨fun h => ?_, fun h => by cases h⟩
    have : b = 9221120237041090561 := by omega
    rw [this] at h2; exact absurd hq h2
  · rw [if_neg h1, if_pos h2, if_neg h1, if_pos h2]
    refine ⟨fun h => ?_, fun h => by cases h⟩
    have : a = 9221120237041090561 := by omega
    rw [this] at h1; exact absurd hq h1
  · simp only [h1, h2, if_false, Option.some.injEq, Bool.false_eq_true]; omega
theorem law_Abs (N : Nat) (b : Nat) (k : Fl → Bool) : s_q188 N b k = k (absF (some b)) := by
  unfold s_q188 G_q188
  simp only [s_q166, s_q90, bitsN_andNot_top]
  rfl

end Go.Proofs.YtccocdgimamdhaaGreatDoor
end
section
namespace Go.Proofs.YtccocdgimamdhaaGreatDoor
open Go Go.Mach
set_option linter.unusedVariables false

theorem cond_k (b : Bool) (k : Bool → Bool) : cond b (k true) (k false) = k b := by cases b <;> rfl
theorem and_true_of {a c : Bool} (h : a = true) : (a && c) = c := by rw [h]; rfl
def Small (N n : Nat) : Prop := n < N ∧ n ≤ 17592186044416
theorem toNat_idx (i n j : Nat) : Int.toNat ((i : Int) * (n : Int) + (j : Int)) = i * n + j := by
  rw [← Int.natCast_mul, ← Int.natCast_add, Int.toNat_natCast]

def of64 (l : List Int) : List Fl := l.map fun n => canon n.toNat
theorem of64_length (l : List Int) : (of64 l).length = l.length := by simp [of64]
def allFin (xs : List Fl) : Bool := allN (fun i => finF (xs.getD i none)) xs.length
theorem law_Finite {N : Nat} (xs : List Fl) (hl : Small N xs.length) (k : Bool → Bool) : s_q88 N xs k = k (allFin xs) := by
  unfold s_q88 G_q88 s_q150
  rw [← cond_k (allFin xs) k]
  refine (iterG_all (fun i => (i : Int)) (fun i => finF (xs.getD i none)) xs.length hl.1 (fun i hi K => ?_) (fun K => ?_) : _)
  · have h2 := hl.2
    simp only [st_an_Finite_0, Int.toNat_natCast]
    rw [dec_true (by omega), cond_true, and_true_of (inR_of (by omega) (by omega)), and_true_of (fits_ok (by omega) (by omega))]
    have hc := clsF_fin (xs.getD i none)
    generalize clsF (xs.getD i none) = c at hc ⊢
    generalize finF (xs.getD i none) = f at hc ⊢
    have d1 : (c == 1) = decide (c = 1) := rfl
    have d2 : (c == 2) = decide (c = 2) := rfl
    rw [d1, d2]
    generalize decide (c = 1) = u at *
    generalize decide (c = 2) = v at *
    cases u <;> cases v <;> cases f <;> first | rfl | cases hc
  · simp only [st_an_Finite_0]
    rw [dec_false (by omega), cond_false]
def bitsF : Fl → Nat
  | none => 9221120237041090561
  | some b => cnb b
theorem order_self (d : Ieee.Datum) (h : d.isNaN = false) : d.order d = some .eq := by
  cases d with
  | nan s t => cases h
  | infinity s => simp [Ieee.Datum.order, compare, compareOfLessAndEq]
  | number s m i => simp [Ieee.Datum.order, compare, compareOfLessAndEq]
theorem feq_self' (b : Nat) (h : isNaN b = false) : (Ieee.double.order b b == some .eq) = true := by
  unfold Ieee.Format.order
  rw [order_self _ h]; rfl
theorem feq_self (b : Nat) : feq (some b) (some b) = !isNaN b := by
  cases h : isNaN b with
  | true => simp [feq, ford, order_nan_left b h]
  | false => simp only [feq, ford, Bool.not_false]; exact feq_self' b h
theorem law_Bits (N : Nat) (x : Fl) (k : Int → Bool) : s_q139 N x k = k (bitsF x) := by
  unfold s_q139 G_q139 s_q99
  cases x with
  | none => rfl
  | some b =>
    rw [feq_self]
    simp only [bitsF, cnb]
    cases isNaN b <;> rfl
theorem nat_tmod (a b : Nat) : Int.tmod (a : Int) (b : Int) = ((a % b : Nat) : Int) := by
  rw [Int.tmod_eq_emod_of_nonneg (by omega)]; rfl
theorem law_Split (N : Nat) (x : Fl) (k : Bool → Int → Int → Bool) : s_q155 N x k = k (Int.fdiv (bitsF x : Int) (2 ^ 63) == 1) ((bitsF x / 4503599627370496 % 2048 : Nat) : Int) ((bitsF x % 4503599627370496 : Nat) : Int) := by
  unfold s_q155 G_q155
  simp only [law_Bits]
  have e1 : (2 : Int) ^ 52 = ((4503599627370496 : Nat) : Int) := by decide
  have e2 : (2048 : Int) = ((2048 : Nat) : Int) := rfl
  have e3 : (4503599627370496 : Int) = ((4503599627370496 : Nat) : Int) := rfl
  rw [e1, e2, e3, nat_fdiv, nat_tmod, nat_tmod, fits_ok (by omega) (by omega)]
  rfl
theorem clsF_bits (x : Fl) : clsF x = if (bitsF x / 4503599627370496 % 2048) = 2047 then (if bitsF x % 4503599627370496 = 0 then 2 else 1) else if bitsF x / 4503599627370496 % 2048 = 0 then (if bitsF x % 4503599627370496 = 0 then 3 else 4) else 5 := by
  cases x with
  | none => decide
  | some b => exact cls_cnb b
theorem law_ref_Class (N : Nat) (x : Fl) (k : Int → Bool) : s_q154 N x k = k (clsF x) := by
  unfold s_q154 G_q154 s_q116 G_q116
  simp only [law_Split, clsF_bits x]
  generalize bitsF x / 4503599627370496 % 2048 = e
  generalize bitsF x % 4503599627370496 = f
  have d1 : ((e : Int) == 2047) = decide (e = 2047) := by rw [Bool.eq_iff_iff, beq_iff_eq, decide_eq_true_iff]; omega
  have d2 : ((e : Int) == 0) = decide (e = 0) := by rw [Bool.eq_iff_iff, beq_iff_eq, decide_eq_true_iff]; omega
  have d3 : ((f : Int) == 0) = decide (f = 0) := by rw [Bool.eq_iff_iff, beq_iff_eq, decide_eq_true_iff]; omega
  simp only [bne, d1, d2, d3]
  by_cases h1 : e = 2047 <;> by_cases h2 : e = 0 <;> by_cases h3 : f = 0 <;> simp [h1, h2, h3]
theorem law_ref_Finite (N : Nat) (x : Fl) (k : Bool → Bool) : s_q50 N x k = k (finF x) := by
  unfold s_q50 G_q50
  simp only [law_ref_Class]
  congr 1
  have h1 := clsF_fin x
  have h2 := clsF_lo x
  rw [Bool.eq_iff_iff, decide_eq_true_iff]
  cases hf : finF x with
  | true =>
    rw [hf] at h1
    simp only [Bool.not_true, Bool.or_eq_false_iff, decide_eq_false_iff_not] at h1
    exact ⟨fun _ => rfl, fun _ => by omega⟩
  | false =>
    rw [hf] at h1
    simp only [Bool.not_false, Bool.or_eq_true, decide_eq_true_eq] at h1
    exact ⟨fun _ => by omega, fun h => by cases h⟩
theorem law_AllFinite {N : Nat} (xs : List Fl) (hl : Small N xs.length) (k : Bool → Bool) : s_q49 N xs k = k (allFin xs) := by
  unfold s_q49 G_q49
  rw [← cond_k (allFin xs) k]
  refine (iterG_all (fun i => (i : Int)) (fun i => finF (xs.getD i none)) xs.length hl.1 (fun i hi K => ?_) (fun K => ?_) : _)
  · have h2 := hl.2
    simp only [st_q223, Int.toNat_natCast, law_ref_Finite]
    rw [dec_true (by omega), cond_true, and_true_of (inR_of (by omega) (by omega)), and_true_of (fits_ok (by omega) (by omega))]
    cases finF (xs.getD i none) <;> rfl
  · simp only [st_q223]
    rw [dec_false (by omega), cond_false]
theorem bitsF_cn (x y : Fl) : ((bitsF x : Int) == bitsF y) = decide (cn x = cn y) := by
  have hq : cn (some 9221120237041090561) = none := by decide
  have hb : cnb 9221120237041090561 = 9221120237041090561 := by decide
  have key : ∀ x, ∃ a, bitsF x = cnb a ∧ cn x = cn (some a) := by
    intro x
    cases x with
    | none => exact ⟨9221120237041090561, hb.symm, hq.symm⟩
    | some b => exact ⟨b, rfl, rfl⟩
  obtain ⟨a, e1, e2⟩ := key x
  obtain ⟨b, e3, e4⟩ := key y
  rw [e1, e2, e3, e4, ← cnb_cn a b (.inr trivial)]
  rfl
theorem iterG_eq0 {σ : Type} {step : σ → (σ → Bool) → Bool} {s : σ} (C : Nat → σ) (n : Nat) {N : Nat} (h0 : s = C 0) (hn : n < N) {out : Bool} (hs : ∀ i, i < n → ∀ K : σ → Bool, step (C i) K = K (C (i + 1))) (hx : ∀ K, step (C n) K = out) : iterG N step s = out := by
  subst h0; exact iterG_eq C n hn hs hx
theorem iterG_all0 {σ : Type} {step : σ → (σ → Bool) → Bool} {s : σ} (C : Nat → σ) (p : Nat → Bool) (n : Nat) {N : Nat} (h0 : s = C 0) (hn : n < N) {ex out : Bool}
    (hs : ∀ i, i < n → ∀ K : σ → Bool, step (C i) K = cond (p i) (K (C (i + 1))) ex) (hx : ∀ K, step (C n) K = out) : iterG N step s = cond (allN p n) out ex := by
  subst h0; exact iterG_all C p n hn hs hx
theorem idx_lt {n i j : Nat} (hi : i < n) (hj : j < n) : i * n + j < n * n := by
  have : (i + 1) * n ≤ n * n := Nat.mul_le_mul_right n hi
  rw [Nat.add_mul] at this; omega
theorem nn_le {n : Nat} (h : n ≤ 12) : n * n ≤ 144 := Nat.mul_le_mul h h
theorem in_le {n i : Nat} (h : n ≤ 12) (hi : i < n) : i * n ≤ 144 := Nat.mul_le_mul (by omega : i ≤ 12) h
theorem ne_dec (a b : Int) : (a != b) = !decide (a = b) := rfl

def chk (r c : Int) (xs : List Fl) : Int := if (0 ≤ r ∧ r ≤ 12) ∧ (0 ≤ c ∧ c ≤ 12) then (if (xs.length : Int) = r * c then (if allFin xs = true then 0 else 4) else 3) else 1
theorem rc_fits {r c : Int} (hr : 0 ≤ r ∧ r ≤ 12) (hc : 0 ≤ c ∧ c ≤ 12) : fits .i64 (r * c) = true := by
  have h1 : 0 ≤ r * c := Int.mul_nonneg hr.1 hc.1
  have h2 : r * c ≤ 12 * 12 := Int.mul_le_mul hr.2 hc.2 hc.1 (by decide)
  exact fits_ok (by omega) (by omega)
theorem chk_zero {r c : Int} {xs : List Fl} : chk r c xs = 0 ↔ ((0 ≤ r ∧ r ≤ 12) ∧ (0 ≤ c ∧ c ≤ 12)) ∧ (xs.length : Int) = r * c ∧ allFin xs = true := by
  unfold chk
  split
  · split
    · split
      · simp [*]
      · simp [*]
    · simp [*]
  · simp [*]

def elt (xs : List Fl) (n i j : Nat) : Fl := xs.getD (i * n + j) none
def upP (xs : List Fl) (n i j : Nat) : Bool := decide (cn (elt xs n i j) = cn (some 0))
def lowRow (xs : List Fl) (n i : Nat) : Bool := allN (fun d => upP xs n i (i + 1 + d)) (n - (i + 1))
def lowP (xs : List Fl) (n : Nat) : Bool := allN (lowRow xs n) n
def diaP (xs : List Fl) (n i : Nat) : Bool := fgt (elt xs n i i) (some 0)
def abvP (xs : List Fl) (n : Nat) : Bool := allN (diaP xs n) n
def rchk (x : List Fl) (r c : Int) (xs : List Fl) : Int :=
  if chk r c xs ≠ 0 then chk r c xs else if r = c ∧ (x.length : Int) = r then (if allFin x = true then (if lowP xs x.length = true ∧ abvP xs x.length = true then 0 else 93) else 4) else 3
def wchk (n : Int) (h : List Fl) (r : Fl) : Int := if (h.length : Int) = n then (if allFin h = true ∧ finF r = true then (if fgt r (some 0) = true then 0 else 152) else 4) else 3
theorem rchk_zero {x : List Fl} {r c : Int} {xs : List Fl} (h : rchk x r c xs = 0) : ∃ n : Nat, x.length = n ∧ r = n ∧ c = n ∧ n ≤ 12 ∧ xs.length = n * n ∧ allFin x = true ∧ allFin xs = true ∧ lowP xs n = true ∧ abvP xs n = true := by
  unfold rchk at h
  split at h
  · exact absurd h (by assumption)
  · rename_i h0
    have h0 : chk r c xs = 0 := by simpa using h0
    split at h
    · rename_i h1
      obtain ⟨rfl, h1⟩ := h1
      subst h1
      have q := chk_zero.1 h0
      split at h
      · split at h
        · rename_i h2 h3
          exact ⟨_, rfl, rfl, rfl, by omega, by exact_mod_cast q.2.1, h2, q.2.2, h3.1, h3.2⟩
        · cases h
      · cases h
    · cases h


theorem toNat_succ (j : Nat) : Int.toNat ((j : Int) + 1) = j + 1 := by omega
def dotV (xs ys : List Fl) : Nat → Fl
  | 0 => some 0
  | i + 1 => fadd (dotV xs ys i) (fmul (xs.getD i none) (ys.getD i none))
def dotO (xs ys : List Fl) : Nat → Bool
  | 0 => false
  | i + 1 => (dotO xs ys i || !finF (fmul (xs.getD i none) (ys.getD i none))) || !finF (dotV xs ys (i + 1))
def colL (xs : List Fl) (n j : Nat) : Nat → List Fl
  | 0 => []
  | i + 1 => colL xs n j i ++ [elt xs n i j]
theorem colL_length (xs : List Fl) (n j : Nat) : ∀ i, (colL xs n j i).length = i
  | 0 => rfl
  | i + 1 => by simp [colL, colL_length xs n j i]
def vL (xs h : List Fl) (n : Nat) : Nat → List Fl
  | 0 => List.replicate n (some 0)
  | j + 1 => (vL xs h n j).set j (dotV (colL xs n j n) h n)
def vO (xs h : List Fl) (n : Nat) : Nat → Bool
  | 0 => false
  | j + 1 => vO xs h n j || dotO (colL xs n j n) h n
theorem vL_length (xs h : List Fl) (n : Nat) : ∀ j, (vL xs h n j).length = n
  | 0 => by simp [vL]
  | j + 1 => by simp [vL, vL_length xs h n j]
def aStep (v a : List Fl) (j : Nat) : Fl := fadd (a.getD (j + 1) none) (fmul (v.getD j none) (v.getD j none))
def aL (v : List Fl) (r : Fl) (n : Nat) : Nat → List Fl
  | 0 => (List.replicate (n + 1) (some 0)).set n r
  | i + 1 => (aL v r n i).set (n - 1 - i) (aStep v (aL v r n i) (n - 1 - i))
def aO (v : List Fl) (r : Fl) (n : Nat) : Nat → Bool
  | 0 => false
  | i + 1 => (aO v r n i || !finF (fmul (v.getD (n - 1 - i) none) (v.getD (n - 1 - i) none))) || !finF (aStep v (aL v r n i) (n - 1 - i))
theorem aL_length (v : List Fl) (r : Fl) (n : Nat) : ∀ i, (aL v r n i).length = n + 1
  | 0 => by simp [aL]
  | i + 1 => by simp [aL, aL_length v r n i]

def fO (x xs h : List Fl) (r : Fl) (n : Nat) : Bool := (vO xs h n n || dotO h x n) || aO (vL xs h n n) r n n
def fA (xs h : List Fl) (r : Fl) (n : Nat) : List Fl := aL (vL xs h n n) r n n
def foreK (x : List Fl) (r c : Int) (xs h : List Fl) (rr : Fl) (k : Fl → Fl → Int → Bool) : Bool :=
  if rchk x r c xs ≠ 0 then k (some 0) (some 0) (rchk x r c xs) else if wchk x.length h rr ≠ 0 then k (some 0) (some 0) (wchk x.length h rr)
  else cond (fO x xs h rr x.length) (k (some 0) (some 0) 5) (k (dotV h x x.length) ((fA xs h rr x.length).getD 0 none) 0)
theorem wchk_len {n : Nat} {h : List Fl} {r : Fl} (hw : wchk n h r = 0) : h.length = n := by
  unfold wchk at hw
  split at hw
  · omega
  · cases hw

end Go.Proofs.YtccocdgimamdhaaGreatDoor
end
