/-
  PURE: laws of the seat's functions, taken over from another seat of mine.
  Conditions: none.
-/
import Derived.Test.YtgngdkjghdohiaaGp
import Derived.Test.YtgngdkjghdohiaaMachT
section
namespace Go.Proofs.Ytgngdkjghdohiaa
open Go Go.Mach
set_option linter.unusedVariables false

theorem nat_fdiv (a b : Nat) : Int.fdiv (a : Int) (b : Int) = ((a / b : Nat) : Int) := by
  rw [Int.fdiv_eq_ediv_of_nonneg _ (by omega)]; rfl
theorem law_format_sign (N : Nat) (k : Int -> Bool) : sq56 N 52 2047 1075 k = k 9223372036854775808 := by rfl
theorem law_format_infinite (N : Nat) (k : Int -> Bool) : sq29 N 52 2047 1075 k = k 9218868437227405312 := by rfl
theorem law_format_hidden (N : Nat) (k : Int -> Bool) : sq35 N 52 2047 1075 k = k 4503599627370496 := by rfl
theorem law_format_none (N : Nat) (k : Int -> Bool) : sq63 N 52 2047 1075 k = k 9221120237041090561 := by
  unfold sq63 Gq63
  simp only [law_format_infinite, law_format_hidden]
  exact congrArg k (by decide)
theorem law_nan (N : Nat) (b : Nat) (k : Bool -> Bool) : sq28 N b 52 2047 1075 k = k (isNaN b) := by
  unfold sq28 Gq28
  simp only [law_format_sign, law_format_infinite, bitsN_andNot_top]
  congr 1
  rw [Bool.eq_iff_iff, decide_eq_true_iff, isNaN_iff]
  omega
def cnb (b : Nat) : Nat := if isNaN b then 9221120237041090561 else b
theorem law_canon (N : Nat) (b : Nat) (k : Int -> Bool) : sq11 N b 52 2047 1075 k = k (cnb b) := by
  unfold sq11 Gq11
  simp only [law_nan, law_format_none, cnb]
  cases isNaN b <;> rfl
theorem law_split (N : Nat) (b : Nat) (k : Bool -> Int -> Int -> Bool) : sq18 N b 52 2047 1075 k = k (bitsN .and .u64 (cnb b) 9223372036854775808 != 0) ((cnb b / 4503599627370496 % 2048 : Nat) : Int) ((cnb b % 4503599627370496 : Nat) : Int) := by
  unfold sq18 Gq18
  simp only [law_canon, law_format_sign, law_format_hidden]
  have e1 : (2 : Int) ^ (min (Int.toNat 52) 64) = ((4503599627370496 : Nat) : Int) := by decide
  have e2 : IntKind.wrap .u64 2047 = ((2 ^ 11 - 1 : Nat) : Int) := by decide
  have e3 : IntKind.wrap .u64 (4503599627370496 - 1) = ((2 ^ 52 - 1 : Nat) : Int) := by decide
  have e4 : decide ((0 : Int) <= 52) = true := by decide
  rw [e1, nat_fdiv, e2, e3, bitsN_and_mask _ _ (by decide), bitsN_and_mask _ _ (by decide), e4, fits_ok (by omega) (by omega)]
  rfl
theorem cls_cnb (b : Nat) : cls b = if (cnb b / 4503599627370496 % 2048) = 2047 then (if cnb b % 4503599627370496 = 0 then 2 else 1) else if cnb b / 4503599627370496 % 2048 = 0 then (if cnb b % 4503599627370496 = 0 then 3 else 4) else 5 := by
  unfold cls cnb
  by_cases h : isNaN b = true
  · rw [if_pos h, if_pos h]; decide
  · rw [if_neg h, if_neg h]
    have hn : ¬ (9218868437227405312 < b % 9223372036854775808) := fun q => h ((isNaN_iff b).2 q)
    by_cases h1 : b / 4503599627370496 % 2048 = 2047
    · rw [if_pos h1, if_pos h1, if_pos (by omega)]
    · rw [if_neg h1, if_neg h1]
theorem law_class (N : Nat) (b : Nat) (k : Int -> Bool) : sq17 N b 52 2047 1075 k = k (cls b) := by
  unfold sq17 Gq17
  simp only [law_split, cls_cnb b]
  generalize cnb b / 4503599627370496 % 2048 = e
  generalize cnb b % 4503599627370496 = f
  have d1 : ((e : Int) == 2047) = decide (e = 2047) := by rw [Bool.eq_iff_iff, beq_iff_eq, decide_eq_true_iff]; omega
  have d2 : ((e : Int) == 0) = decide (e = 0) := by rw [Bool.eq_iff_iff, beq_iff_eq, decide_eq_true_iff]; omega
  have d3 : ((f : Int) == 0) = decide (f = 0) := by rw [Bool.eq_iff_iff, beq_iff_eq, decide_eq_true_iff]; omega
  simp only [bne, d1, d2, d3]
  by_cases h1 : e = 2047 <;> by_cases h2 : e = 0 <;> by_cases h3 : f = 0 <;> simp [h1, h2, h3]
theorem law_Class (N : Nat) (b : Nat) (k : Int -> Bool) : sq59 N b k = k (cls b) := by
  unfold sq59 Gq59
  simp only [sq54, s_an_of, G_an_of, law_class]
theorem cnb_cn (a b : Nat) (_ha : a < 18446744073709551616 \/ True) : decide ((cnb a : Int) = cnb b) = decide (cn (some a) = cn (some b)) := by
  have hq : isNaN 9221120237041090561 = true := by decide
  rw [Bool.eq_iff_iff, decide_eq_true_iff, decide_eq_true_iff]
  have cf : ∀ c, cn (some c) = if isNaN c = true then none else some c := fun _ => rfl
  rw [cf, cf]
  unfold cnb
  by_cases h1 : isNaN a = true <;> by_cases h2 : isNaN b = true
  · simp [h1, h2]
  · rw [if_pos h1, if_neg h2, if_pos h1, if_neg h2]
    refine ⟨fun h => ?_, fun h => by cases h⟩
    have : b = 9221120237041090561 := by omega
    rw [this] at h2; exact absurd hq h2
  · rw [if_neg h1, if_pos h2, if_neg h1, if_pos h2]
    refine ⟨fun h => ?_, fun h => by cases h⟩
    have : a = 9221120237041090561 := by omega
    rw [this] at h1; exact absurd hq h1
  · simp only [h1, h2, if_false, Option.some.injEq, Bool.false_eq_true]; omega
theorem law_Same (N : Nat) (a b : Nat) (k : Bool -> Bool) : sq60 N a b k = k (decide (cn (some a) = cn (some b))) := by
  unfold sq60 Gq60
  simp only [sq54, s_an_of, G_an_of, law_canon]
  rw [<- cnb_cn a b (.inr trivial)]
  rfl
theorem cond_k (b : Bool) (k : Bool -> Bool) : cond b (k true) (k false) = k b := by cases b <;> rfl
theorem and_true_of {a c : Bool} (h : a = true) : (a && c) = c := by rw [h]; rfl
def Small (N n : Nat) : Prop := n < N /\ n <= 17592186044416
theorem toNat_idx (i n j : Nat) : Int.toNat ((i : Int) * (n : Int) + (j : Int)) = i * n + j := by
  rw [<- Int.natCast_mul, <- Int.natCast_add, Int.toNat_natCast]

def of64 (l : List Int) : List Fl := l.map fun n => canon n.toNat
theorem of64_length (l : List Int) : (of64 l).length = l.length := by simp [of64]
theorem law_Of64 {N : Nat} (l : List Int) (hl : Small N l.length) (k : List Fl -> Bool) : sq57 N l k = k (of64 l) := by
  unfold sq57 Gq57 sq62
  refine (iterG_eq (fun i => ((i : Int), (l.take i).map fun n => canon n.toNat)) l.length hl.1 (fun i hi K => ?_) (fun K => ?_) : _)
  · have h2 := hl.2
    have e1 : (l.take (i + 1)).map (fun n => canon n.toNat) = (l.take i).map (fun n => canon n.toNat) ++ [canon (l.getD i 0).toNat] := by
      rw [List.take_succ_eq_append_getElem hi, List.map_append, List.getD_eq_getElem?_getD, List.getElem?_eq_getElem hi]; rfl
    simp only [st_z01_Of64_0, Int.toNat_natCast]
    rw [dec_true (by omega), cond_true, and_true_of (inR_of (by omega) (by omega)), and_true_of (dec_true (by simp; omega)), and_true_of (fits_ok (by omega) (by omega)), e1]
    rfl
  · simp only [st_z01_Of64_0]
    rw [dec_false (by omega), cond_false, List.take_length]; rfl
theorem law_l {N : Nat} (l : List Int) (hl : Small N l.length) (k : List Fl -> Bool) : s_zk_l N l k = k (of64 l) := by
  unfold s_zk_l G_zk_l
  rw [law_Of64 l hl]
theorem law_mat {N : Nat} (r c : Int) (l : List Int) (hl : Small N l.length) (k : List Fl -> Bool) : sq65 N r c l k = k (of64 l) := by
  unfold sq65 Gq65
  rw [law_l l hl]
theorem law_of {N : Nat} (x : List Int) (r c : Int) (l : List Int) (hx : Small N x.length) (hl : Small N l.length) (k : List Fl -> List Fl -> Bool) : s_zk_of N x r c l k = k (of64 x) (of64 l) := by
  unfold s_zk_of G_zk_of
  simp only [law_l x hx, law_mat r c l hl]
theorem law_f (N : Nat) (b : Int) (k : Fl -> Bool) : s_zk_f N b k = k (canon b.toNat) := by rfl

def allFin (xs : List Fl) : Bool := allN (fun i => finF (xs.getD i none)) xs.length
theorem law_Finite {N : Nat} (xs : List Fl) (hl : Small N xs.length) (k : Bool -> Bool) : sq2 N xs k = k (allFin xs) := by
  unfold sq2 Gq2 sq48
  rw [<- cond_k (allFin xs) k]
  refine (iterG_all (fun i => (i : Int)) (fun i => finF (xs.getD i none)) xs.length hl.1 (fun i hi K => ?_) (fun K => ?_) : _)
  · have h2 := hl.2
    simp only [st_an_Finite_0, Int.toNat_natCast]
    rw [dec_true (by omega), cond_true, and_true_of (inR_of (by omega) (by omega)), and_true_of (fits_ok (by omega) (by omega))]
    have hc := clsF_fin (xs.getD i none)
    generalize clsF (xs.getD i none) = c at hc ⊢
    generalize finF (xs.getD i none) = f at hc ⊢
    have d1 : (c == 1) = decide (c = 1) := rfl
    have d2 : (c == 2) = decide (c = 2) := rfl
    rw [d1, d2]
    generalize decide (c = 1) = u at *
    generalize decide (c = 2) = v at *
    cases u <;> cases v <;> cases f <;> first | rfl | cases hc
  · simp only [st_an_Finite_0]
    rw [dec_false (by omega), cond_false]
theorem law_finite (N : Nat) (x : Fl) (k : Bool -> Bool) : s_root_finite N x k = k (finF x) := congrArg k (fin_eq x)
theorem law_see (N : Nat) (x : Fl) (o : Bool) (k : Bool -> Bool) : s_root_steps_see_p0 N x o k = k (o || !finF x) := by
  unfold s_root_steps_see_p0 G_root_steps_see_p0
  simp only [law_finite]
  cases o <;> rfl

def bitsF : Fl -> Nat
  | none => 9221120237041090561
  | some b => cnb b
theorem order_self (d : Ieee.Datum) (h : d.isNaN = false) : d.order d = some .eq := by
  cases d with
  | nan s t => cases h
  | infinity s => simp [Ieee.Datum.order, compare, compareOfLessAndEq]
  | number s m i => simp [Ieee.Datum.order, compare, compareOfLessAndEq]
theorem feq_self' (b : Nat) (h : isNaN b = false) : (Ieee.double.order b b == some .eq) = true := by
  unfold Ieee.Format.order
  rw [order_self _ h]; rfl
theorem feq_self (b : Nat) : feq (some b) (some b) = !isNaN b := by
  cases h : isNaN b with
  | true => simp [feq, ford, order_nan_left b h]
  | false => simp only [feq, ford, Bool.not_false]; exact feq_self' b h
theorem law_Bits (N : Nat) (x : Fl) (k : Int -> Bool) : sq42 N x k = k (bitsF x) := by
  unfold sq42 Gq42 sq69
  cases x with
  | none => rfl
  | some b =>
    rw [feq_self]
    simp only [bitsF, cnb]
    cases isNaN b <;> rfl
theorem nat_tmod (a b : Nat) : Int.tmod (a : Int) (b : Int) = ((a % b : Nat) : Int) := by
  rw [Int.tmod_eq_emod_of_nonneg (by omega)]; rfl
theorem law_Split (N : Nat) (x : Fl) (k : Bool -> Int -> Int -> Bool) : sq51 N x k = k (Int.fdiv (bitsF x : Int) (2 ^ 63) == 1) ((bitsF x / 4503599627370496 % 2048 : Nat) : Int) ((bitsF x % 4503599627370496 : Nat) : Int) := by
  unfold sq51 Gq51
  simp only [law_Bits]
  have e1 : (2 : Int) ^ 52 = ((4503599627370496 : Nat) : Int) := by decide
  have e2 : (2048 : Int) = ((2048 : Nat) : Int) := rfl
  have e3 : (4503599627370496 : Int) = ((4503599627370496 : Nat) : Int) := rfl
  rw [e1, e2, e3, nat_fdiv, nat_tmod, nat_tmod, fits_ok (by omega) (by omega)]
  rfl
theorem clsF_bits (x : Fl) : clsF x = if (bitsF x / 4503599627370496 % 2048) = 2047 then (if bitsF x % 4503599627370496 = 0 then 2 else 1) else if bitsF x / 4503599627370496 % 2048 = 0 then (if bitsF x % 4503599627370496 = 0 then 3 else 4) else 5 := by
  cases x with
  | none => decide
  | some b => exact cls_cnb b
theorem law_ref_Class (N : Nat) (x : Fl) (k : Int -> Bool) : sq50 N x k = k (clsF x) := by
  unfold sq50 Gq50 sq33 Gq33
  simp only [law_Split, clsF_bits x]
  generalize bitsF x / 4503599627370496 % 2048 = e
  generalize bitsF x % 4503599627370496 = f
  have d1 : ((e : Int) == 2047) = decide (e = 2047) := by rw [Bool.eq_iff_iff, beq_iff_eq, decide_eq_true_iff]; omega
  have d2 : ((e : Int) == 0) = decide (e = 0) := by rw [Bool.eq_iff_iff, beq_iff_eq, decide_eq_true_iff]; omega
  have d3 : ((f : Int) == 0) = decide (f = 0) := by rw [Bool.eq_iff_iff, beq_iff_eq, decide_eq_true_iff]; omega
  simp only [bne, d1, d2, d3]
  by_cases h1 : e = 2047 <;> by_cases h2 : e = 0 <;> by_cases h3 : f = 0 <;> simp [h1, h2, h3]
theorem law_ref_Finite (N : Nat) (x : Fl) (k : Bool -> Bool) : sq1 N x k = k (finF x) := by
  unfold sq1 Gq1
  simp only [law_ref_Class]
  congr 1
  have h1 := clsF_fin x
  have h2 := clsF_lo x
  rw [Bool.eq_iff_iff, decide_eq_true_iff]
  cases hf : finF x with
  | true =>
    rw [hf] at h1
    simp only [Bool.not_true, Bool.or_eq_false_iff, decide_eq_false_iff_not] at h1
    exact ⟨fun _ => rfl, fun _ => by omega⟩
  | false =>
    rw [hf] at h1
    simp only [Bool.not_false, Bool.or_eq_true, decide_eq_true_eq] at h1
    exact ⟨fun _ => by omega, fun h => by cases h⟩
theorem law_AllFinite {N : Nat} (xs : List Fl) (hl : Small N xs.length) (k : Bool -> Bool) : sq4 N xs k = k (allFin xs) := by
  unfold sq4 Gq4
  rw [<- cond_k (allFin xs) k]
  refine (iterG_all (fun i => (i : Int)) (fun i => finF (xs.getD i none)) xs.length hl.1 (fun i hi K => ?_) (fun K => ?_) : _)
  · have h2 := hl.2
    simp only [stq76, Int.toNat_natCast, law_ref_Finite]
    rw [dec_true (by omega), cond_true, and_true_of (inR_of (by omega) (by omega)), and_true_of (fits_ok (by omega) (by omega))]
    cases finF (xs.getD i none) <;> rfl
  · simp only [stq76]
    rw [dec_false (by omega), cond_false]
theorem law_S (N : Nat) (x : Fl) (o : Bool) (k : Bool -> Bool) : sq10 N x o k = k (o || !finF x) := by
  unfold sq10 Gq10
  simp only [law_ref_Finite]
  cases o <;> rfl
theorem bitsF_cn (x y : Fl) : ((bitsF x : Int) == bitsF y) = decide (cn x = cn y) := by
  have hq : cn (some 9221120237041090561) = none := by decide
  have hb : cnb 9221120237041090561 = 9221120237041090561 := by decide
  have key : ∀ x, ∃ a, bitsF x = cnb a /\ cn x = cn (some a) := by
    intro x
    cases x with
    | none => exact ⟨9221120237041090561, hb.symm, hq.symm⟩
    | some b => exact ⟨b, rfl, rfl⟩
  obtain ⟨a, e1, e2⟩ := key x
  obtain ⟨b, e3, e4⟩ := key y
  rw [e1, e2, e3, e4, <- cnb_cn a b (.inr trivial)]
  rfl
theorem law_ref_Same (N : Nat) (x y : Fl) (k : Bool -> Bool) : sq15 N x y k = k (decide (cn x = cn y)) := by
  unfold sq15 Gq15
  simp only [law_Bits, bitsF_cn]

theorem law_SameList_self {N : Nat} (xs : List Fl) (hl : Small N xs.length) (k : Bool -> Bool) : sq16 N xs xs k = k true := by
  unfold sq16 Gq16
  have e0 : ((xs.length : Int) != xs.length) = false := by simp
  rw [e0, cond_false]
  refine (iterG_eq (fun i => (i : Int)) xs.length hl.1 (fun i hi K => ?_) (fun K => ?_) : _)
  · have h2 := hl.2
    simp only [stq80, Int.toNat_natCast, law_ref_Same]
    rw [dec_true (by omega), cond_true, and_true_of (inR_of (by omega) (by omega)), and_true_of (inR_of (by omega) (by omega)), and_true_of (fits_ok (by omega) (by omega)), dec_true trivial]
    rfl
  · simp only [stq80]
    rw [dec_false (by omega), cond_false]


theorem iterG_eq0 {σ : Type} {step : σ -> (σ -> Bool) -> Bool} {s : σ} (C : Nat -> σ) (n : Nat) {N : Nat} (h0 : s = C 0) (hn : n < N) {out : Bool} (hs : ∀ i, i < n -> ∀ K : σ -> Bool, step (C i) K = K (C (i + 1))) (hx : ∀ K, step (C n) K = out) : iterG N step s = out := by
  subst h0; exact iterG_eq C n hn hs hx
theorem iterG_all0 {σ : Type} {step : σ -> (σ -> Bool) -> Bool} {s : σ} (C : Nat -> σ) (p : Nat -> Bool) (n : Nat) {N : Nat} (h0 : s = C 0) (hn : n < N) {ex out : Bool}
    (hs : ∀ i, i < n -> ∀ K : σ -> Bool, step (C i) K = cond (p i) (K (C (i + 1))) ex) (hx : ∀ K, step (C n) K = out) : iterG N step s = cond (allN p n) out ex := by
  subst h0; exact iterG_all C p n hn hs hx
theorem idx_lt {n i j : Nat} (hi : i < n) (hj : j < n) : i * n + j < n * n := by
  have : (i + 1) * n <= n * n := Nat.mul_le_mul_right n hi
  rw [Nat.add_mul] at this; omega
theorem nn_le {n : Nat} (h : n <= 12) : n * n <= 144 := Nat.mul_le_mul h h
theorem in_le {n i : Nat} (h : n <= 12) (hi : i < n) : i * n <= 144 := Nat.mul_le_mul (by omega : i <= 12) h
theorem ne_dec (a b : Int) : (a != b) = !decide (a = b) := rfl

theorem law_size (N : Nat) (n : Int) (k : Bool -> Bool) : sq24 N n k = k (decide (0 <= n /\ n <= 12)) := by
  unfold sq24 Gq24
  by_cases h1 : 0 <= n
  · rw [dec_true (p := n >= 0) h1]; simp [h1]
  · rw [dec_false (p := n >= 0) h1]; simp [h1]

def chk (r c : Int) (xs : List Fl) : Int := if (0 <= r /\ r <= 12) /\ (0 <= c /\ c <= 12) then (if (xs.length : Int) = r * c then (if allFin xs = true then 0 else 4) else 3) else 1
theorem rc_fits {r c : Int} (hr : 0 <= r /\ r <= 12) (hc : 0 <= c /\ c <= 12) : fits .i64 (r * c) = true := by
  have h1 : 0 <= r * c := Int.mul_nonneg hr.1 hc.1
  have h2 : r * c <= 12 * 12 := Int.mul_le_mul hr.2 hc.2 hc.1 (by decide)
  exact fits_ok (by omega) (by omega)
theorem law_Check {N : Nat} (r c : Int) (xs : List Fl) (hl : Small N xs.length) (k : Int -> Bool) : sq0 N r c xs k = k (chk r c xs) := by
  unfold sq0 Gq0 chk
  simp only [law_size, law_Finite xs hl]
  by_cases hr : 0 <= r /\ r <= 12
  · by_cases hc : 0 <= c /\ c <= 12
    · rw [dec_true hr, dec_true hc, if_pos ⟨hr, hc⟩, ne_dec, rc_fits hr hc]
      by_cases hx : (xs.length : Int) = r * c
      · rw [dec_true hx, if_pos hx]; cases allFin xs <;> rfl
      · rw [dec_false hx, if_neg hx]; rfl
    · rw [dec_true hr, dec_false hc, if_neg (fun h => hc h.2)]; rfl
  · rw [dec_false hr, if_neg (fun h => hr h.1)]; rfl
theorem law_ref_Check {N : Nat} (r c : Int) (xs : List Fl) (hl : Small N xs.length) (k : Int -> Bool) : sq53 N r c xs k = k (chk r c xs) := by
  unfold sq53 Gq53 chk
  simp only [law_AllFinite xs hl]
  by_cases hr : 0 <= r /\ r <= 12
  · by_cases hc : 0 <= c /\ c <= 12
    · rw [if_pos ⟨hr, hc⟩, ne_dec, rc_fits hr hc, dec_false (p := r < 0) (by omega), dec_false (p := r > 12) (by omega), dec_false (p := c < 0) (by omega), dec_false (p := c > 12) (by omega)]
      by_cases hx : (xs.length : Int) = r * c
      · rw [dec_true hx, if_pos hx]; cases allFin xs <;> rfl
      · rw [dec_false hx, if_neg hx]; rfl
    · rw [if_neg (fun h => hc h.2), dec_false (p := r < 0) (by omega), dec_false (p := r > 12) (by omega)]
      by_cases h : c < 0
      · rw [dec_true h]; rfl
      · rw [dec_false h, dec_true (p := c > 12) (by omega)]; rfl
  · rw [if_neg (fun h => hr h.1)]
    by_cases h : r < 0
    · rw [dec_true h]; rfl
    · rw [dec_false h, dec_true (p := r > 12) (by omega)]; rfl
theorem law_shape (N : Nat) (r c n : Int) (k : Int -> Bool) : sq52 N r c n k = k (if (0 <= r /\ r <= 12) /\ (0 <= c /\ c <= 12) then (if n = r * c then 0 else 3) else 1) := by
  unfold sq52 Gq52
  by_cases hr : 0 <= r /\ r <= 12
  · by_cases hc : 0 <= c /\ c <= 12
    · rw [if_pos ⟨hr, hc⟩, ne_dec, rc_fits hr hc, dec_false (p := r < 0) (by omega), dec_false (p := r > 12) (by omega), dec_false (p := c < 0) (by omega), dec_false (p := c > 12) (by omega)]
      by_cases hx : n = r * c
      · rw [dec_true hx, if_pos hx]; rfl
      · rw [dec_false hx, if_neg hx]; rfl
    · rw [if_neg (fun h => hc h.2), dec_false (p := r < 0) (by omega), dec_false (p := r > 12) (by omega)]
      by_cases h : c < 0
      · rw [dec_true h]; rfl
      · rw [dec_false h, dec_true (p := c > 12) (by omega)]; rfl
  · rw [if_neg (fun h => hr h.1)]
    by_cases h : r < 0
    · rw [dec_true h]; rfl
    · rw [dec_false h, dec_true (p := r > 12) (by omega)]; rfl
theorem law_Good {N : Nat} (r c : Int) (xs : List Fl) (hl : Small N xs.length) (k : Int -> Bool) : sq26 N r c xs k = k (chk r c xs) := by
  unfold sq26 Gq26 chk
  simp only [law_AllFinite xs hl, law_shape]
  by_cases hr : (0 <= r /\ r <= 12) /\ 0 <= c /\ c <= 12
  · rw [if_pos hr, if_pos hr]
    by_cases hx : (xs.length : Int) = r * c
    · rw [if_pos hx, if_pos hx]; cases allFin xs <;> rfl
    · rw [if_neg hx, if_neg hx]; rfl
  · rw [if_neg hr, if_neg hr]; rfl
theorem chk_zero {r c : Int} {xs : List Fl} : chk r c xs = 0 ↔ ((0 <= r /\ r <= 12) /\ (0 <= c /\ c <= 12)) /\ (xs.length : Int) = r * c /\ allFin xs = true := by
  unfold chk
  split
  · split
    · split
      · simp [*]
      · simp [*]
    · simp [*]
  · simp [*]

def elt (xs : List Fl) (n i j : Nat) : Fl := xs.getD (i * n + j) none
theorem law_at {N n : Nat} {xs : List Fl} {i j : Nat} (hn : n <= 12) (hl : xs.length = n * n) (hi : i < n) (hj : j < n) (k : Fl -> Bool) : sq27 N n n xs i j k = k (elt xs n i j) := by
  unfold sq27 Gq27
  have a1 := idx_lt hi hj
  have a2 := nn_le hn
  have a3 := in_le hn hi
  rw [toNat_idx, fits_ok (by omega) (by omega), fits_ok (by omega) (by omega), inR_of (by omega) (by omega)]
  rfl
theorem law_ref09_At {N n : Nat} {xs : List Fl} {i j : Nat} (hn : n <= 12) (hl : xs.length = n * n) (hi : i < n) (hj : j < n) (k : Fl -> Bool) : sq55 N n n xs i j k = k (elt xs n i j) := law_at (N := N) hn hl hi hj k
theorem law_ref08_At {N n : Nat} {xs : List Fl} {i j : Nat} (hn : n <= 12) (hl : xs.length = n * n) (hi : i < n) (hj : j < n) (k : Fl -> Bool) : sq21 N n n xs i j k = k (elt xs n i j) := law_at (N := N) hn hl hi hj k

def upP (xs : List Fl) (n i j : Nat) : Bool := decide (cn (elt xs n i j) = cn (some 0))
def lowRow (xs : List Fl) (n i : Nat) : Bool := allN (fun d => upP xs n i (i + 1 + d)) (n - (i + 1))
def lowP (xs : List Fl) (n : Nat) : Bool := allN (lowRow xs n) n
def diaP (xs : List Fl) (n i : Nat) : Bool := fgt (elt xs n i i) (some 0)
def abvP (xs : List Fl) (n : Nat) : Bool := allN (diaP xs n) n
theorem law_Lower {N n : Nat} {xs : List Fl} (hn : n <= 12) (hN : 12 < N) (hs : Small N xs.length) (hc : chk n n xs = 0) (k : Bool -> Bool) : sq12 N n n xs k = k (lowP xs n) := by
  have hl : xs.length = n * n := by have := (chk_zero.1 hc).2.1; exact_mod_cast this
  unfold sq12 Gq12
  simp only [law_Check _ _ xs hs, hc, ne_dec]
  simp only [decide_true, Bool.not_true, cond_false, beq_self_eq_true, cond_true]
  rw [<- cond_k (lowP xs n) k]
  refine iterG_all0 (fun i => (i : Int)) (lowRow xs n) n rfl (by omega) (fun i hi K => ?_) (fun K => ?_)
  · simp only [stq79]
    rw [dec_true (by omega), cond_true, and_true_of (fits_ok (by omega) (by omega))]
    have := iterG_all0 (N := N) (step := stq72 N (sq0 N) (sq27 N) (sq46 N) i n i n n xs k ((fits .i64 (i + 1)) && K (i + 1))) (s := (i : Int) + 1) (ex := k false) (out := K (i + 1)) (fun d => ((i + 1 + d : Nat) : Int)) (fun d => upP xs n i (i + 1 + d)) (n - (i + 1)) (by simp) (by omega) (fun d hd K => ?_) (fun K => ?_)
    · exact this
    · simp only [stq72]
      rw [dec_true (by omega), cond_true, law_at hn hl hi (by omega)]
      simp only [sq46]
      rw [and_true_of (fits_ok (by omega) (by omega))]
      show cond (!upP xs n i (i + 1 + d)) (k false) _ = _
      cases upP xs n i (i + 1 + d) <;> rfl
    · simp only [stq72]
      rw [dec_false (by omega), cond_false, and_true_of (fits_ok (by omega) (by omega))]
  · simp only [stq79]
    rw [dec_false (by omega), cond_false]
theorem law_above {N n : Nat} {xs : List Fl} (hn : n <= 12) (hN : 12 < N) (hl : xs.length = n * n) (k : Bool -> Bool) : s_root_above N n n xs k = k (abvP xs n) := by
  unfold s_root_above G_root_above
  rw [<- cond_k (abvP xs n) k]
  refine iterG_all0 (fun i => (i : Int)) (diaP xs n) n rfl (by omega) (fun i hi K => ?_) (fun K => ?_)
  · simp only [st_root_above_0]
    have a1 := idx_lt hi hi
    have a2 := nn_le hn
    have a3 := in_le hn hi
    rw [dec_true (by omega), cond_true, toNat_idx, and_true_of (fits_ok (by omega) (by omega)), and_true_of (fits_ok (by omega) (by omega)), and_true_of (inR_of (by omega) (by omega)), and_true_of (fits_ok (by omega) (by omega))]
    show cond (!diaP xs n i) (k false) _ = _
    cases diaP xs n i <;> rfl
  · simp only [st_root_above_0]
    rw [dec_false (by omega), cond_false]
theorem law_Triangle {N n : Nat} {xs : List Fl} (hn : n <= 12) (hN : 12 < N) (hs : Small N xs.length) (hc : chk n n xs = 0) (k : Int -> Bool) : sq30 N n n xs k = k (if lowP xs n = true /\ abvP xs n = true then 0 else 93) := by
  have hl : xs.length = n * n := by have := (chk_zero.1 hc).2.1; exact_mod_cast this
  unfold sq30 Gq30
  simp only [law_Good _ _ xs hs, hc, ne_dec]
  simp only [decide_true, Bool.not_true, cond_false]
  have e : k (if lowP xs n = true /\ abvP xs n = true then 0 else 93) = cond (allN (fun i => diaP xs n i && lowRow xs n i) n) (k 0) (k 93) := by
    have : allN (fun i => diaP xs n i && lowRow xs n i) n = (abvP xs n && lowP xs n) := by
      rw [Bool.eq_iff_iff, Bool.and_eq_true, abvP, lowP, allN_iff, allN_iff, allN_iff]
      constructor
      · intro h; exact ⟨fun i hi => by have := h i hi; simp at this; exact this.1, fun i hi => by have := h i hi; simp at this; exact this.2⟩
      · intro h i hi; rw [h.1 i hi, h.2 i hi]; rfl
    rw [this]
    cases abvP xs n <;> cases lowP xs n <;> rfl
  rw [e]
  refine iterG_all0 (fun i => (i : Int)) (fun i => diaP xs n i && lowRow xs n i) n rfl (by omega) (fun i hi K => ?_) (fun K => ?_)
  · simp only [stq81]
    rw [dec_true (by omega), cond_true, law_ref09_At hn hl hi hi, and_true_of (fits_ok (by omega) (by omega))]
    show cond (!diaP xs n i) (k 93) _ = _
    cases diaP xs n i
    · rfl
    · have := iterG_all0 (N := N) (step := stq73 N (sq26 N) (sq55 N) (sq15 N) i n n xs k ((fits .i64 (i + 1)) && K (i + 1))) (s := (i : Int) + 1) (ex := k 93) (out := K (i + 1)) (fun d => ((i + 1 + d : Nat) : Int)) (fun d => upP xs n i (i + 1 + d)) (n - (i + 1)) (by simp) (by omega) (fun d hd K => ?_) (fun K => ?_)
      · exact this
      · simp only [stq73]
        rw [dec_true (by omega), cond_true, law_ref09_At hn hl hi (by omega), law_ref_Same, and_true_of (fits_ok (by omega) (by omega))]
        show cond (!upP xs n i (i + 1 + d)) (k 93) _ = _
        cases upP xs n i (i + 1 + d) <;> rfl
      · simp only [stq73]
        rw [dec_false (by omega), cond_false, and_true_of (fits_ok (by omega) (by omega))]
  · simp only [stq81]
    rw [dec_false (by omega), cond_false]

def rchk (x : List Fl) (r c : Int) (xs : List Fl) : Int :=
  if chk r c xs ≠ 0 then chk r c xs else if r = c /\ (x.length : Int) = r then (if allFin x = true then (if lowP xs x.length = true /\ abvP xs x.length = true then 0 else 93) else 4) else 3
theorem law_root_Check {N : Nat} (x : List Fl) (r c : Int) (xs : List Fl) (hN : 12 < N) (hx : Small N x.length) (hs : Small N xs.length) (k : Int -> Bool) : s_root_Check N x r c xs k = k (rchk x r c xs) := by
  unfold s_root_Check G_root_Check rchk
  simp only [law_Check _ _ xs hs, ne_dec]
  by_cases h0 : chk r c xs = 0
  · rw [dec_true h0, if_neg (by simpa using h0)]
    by_cases h1 : r = c
    · subst h1
      rw [dec_true (p := r = r) rfl]
      by_cases h2 : (x.length : Int) = r
      · subst h2
        rw [dec_true (p := (x.length : Int) = x.length) rfl]
        have hn : x.length <= 12 := by have := (chk_zero.1 h0).1; omega
        have hl : xs.length = x.length * x.length := by have := (chk_zero.1 h0).2.1; exact_mod_cast this
        simp only [law_Finite x hx, law_Lower hn hN hs h0, law_above hn hN hl]
        cases allFin x <;> cases lowP xs x.length <;> cases abvP xs x.length <;> rfl
      · rw [dec_false h2, if_neg (fun h => h2 h.2)]; rfl
    · rw [dec_false h1, if_neg (fun h => h1 h.1)]; rfl
  · rw [dec_false h0, if_pos h0]; rfl
theorem law_ref16_Check {N : Nat} (x : List Fl) (r c : Int) (xs : List Fl) (hN : 12 < N) (hx : Small N x.length) (hs : Small N xs.length) (k : Int -> Bool) : sq8 N x r c xs k = k (rchk x r c xs) := by
  unfold sq8 Gq8 rchk
  simp only [law_ref_Check _ _ xs hs, ne_dec]
  by_cases h0 : chk r c xs = 0
  · rw [dec_true h0, if_neg (by simpa using h0)]
    by_cases h1 : r = c
    · subst h1
      rw [dec_true (p := r = r) rfl]
      by_cases h2 : (x.length : Int) = r
      · subst h2
        rw [dec_true (p := (x.length : Int) = x.length) rfl]
        have hn : x.length <= 12 := by have := (chk_zero.1 h0).1; omega
        simp only [law_AllFinite x hx, law_Triangle hn hN hs h0]
        cases allFin x <;> rfl
      · rw [dec_false h2, if_neg (fun h => h2 h.2)]; rfl
    · rw [dec_false h1, if_neg (fun h => h1 h.1)]; rfl
  · rw [dec_false h0, if_pos h0]; rfl
def wchk (n : Int) (h : List Fl) (r : Fl) : Int := if (h.length : Int) = n then (if allFin h = true /\ finF r = true then (if fgt r (some 0) = true then 0 else 152) else 4) else 3
theorem law_checkRow {N : Nat} (n : Int) (h : List Fl) (r : Fl) (hs : Small N h.length) (k : Int -> Bool) : s_root_checkRow N n h r k = k (wchk n h r) := by
  unfold s_root_checkRow G_root_checkRow wchk
  simp only [law_Finite h hs, law_finite, ne_dec]
  by_cases h1 : (h.length : Int) = n
  · rw [dec_true h1, if_pos h1]
    cases allFin h <;> cases finF r <;> cases fgt r (some 0) <;> rfl
  · rw [dec_false h1, if_neg h1]; rfl
theorem law_Row {N : Nat} (n : Int) (h : List Fl) (r : Fl) (hs : Small N h.length) (k : Int -> Bool) : sq32 N n h r k = k (wchk n h r) := by
  unfold sq32 Gq32 wchk
  simp only [law_AllFinite h hs, law_ref_Finite, ne_dec]
  by_cases h1 : (h.length : Int) = n
  · rw [dec_true h1, if_pos h1]
    cases allFin h <;> cases finF r <;> cases fgt r (some 0) <;> rfl
  · rw [dec_false h1, if_neg h1]; rfl
theorem rchk_zero {x : List Fl} {r c : Int} {xs : List Fl} (h : rchk x r c xs = 0) : ∃ n : Nat, x.length = n /\ r = n /\ c = n /\ n <= 12 /\ xs.length = n * n /\ allFin x = true /\ allFin xs = true /\ lowP xs n = true /\ abvP xs n = true := by
  unfold rchk at h
  split at h
  · exact absurd h (by assumption)
  · rename_i h0
    have h0 : chk r c xs = 0 := by simpa using h0
    split at h
    · rename_i h1
      obtain ⟨rfl, h1⟩ := h1
      subst h1
      have q := chk_zero.1 h0
      split at h
      · split at h
        · rename_i h2 h3
          exact ⟨_, rfl, rfl, rfl, by omega, by exact_mod_cast q.2.1, h2, q.2.2, h3.1, h3.2⟩
        · cases h
      · cases h
    · cases h


theorem toNat_succ (j : Nat) : Int.toNat ((j : Int) + 1) = j + 1 := by omega
def dotV (xs ys : List Fl) : Nat -> Fl
  | 0 => some 0
  | i + 1 => fadd (dotV xs ys i) (fmul (xs.getD i none) (ys.getD i none))
def dotO (xs ys : List Fl) : Nat -> Bool
  | 0 => false
  | i + 1 => (dotO xs ys i || !finF (fmul (xs.getD i none) (ys.getD i none))) || !finF (dotV xs ys (i + 1))
theorem law_dot {N : Nat} (xs ys : List Fl) (o : Bool) (k : Fl -> Bool -> Bool) (h1 : xs.length <= ys.length) (h2 : Small N xs.length) :
    s_root_steps_dot_p0 N xs ys o k = k (dotV xs ys xs.length) (o || dotO xs ys xs.length) := by
  unfold s_root_steps_dot_p0 G_root_steps_dot_p0
  have h3 := h2.2
  refine iterG_eq0 (fun i => (dotV xs ys i, (i : Int), o || dotO xs ys i)) xs.length (by simp [dotV, dotO]) h2.1 (fun i hi K => ?_) (fun K => ?_)
  · simp only [st_root_steps_dot_p0_0, law_see, Int.toNat_natCast]
    rw [dec_true (by omega), cond_true, and_true_of (inR_of (by omega) (by omega)), and_true_of (inR_of (by omega) (by omega)), and_true_of (fits_ok (by omega) (by omega))]
    simp only [dotV, dotO, Bool.or_assoc]
    rfl
  · simp only [st_root_steps_dot_p0_0]
    rw [dec_false (by omega), cond_false]
theorem law_ref_dot {N : Nat} (xs ys : List Fl) (o : Bool) (k : Fl -> Bool -> Bool) (h1 : xs.length <= ys.length) (h2 : Small N xs.length) :
    sq22 N xs ys o k = k (dotV xs ys xs.length) (o || dotO xs ys xs.length) := by
  unfold sq22 Gq22
  have h3 := h2.2
  refine iterG_eq0 (fun i => (dotV xs ys i, (i : Int), o || dotO xs ys i)) xs.length (by simp [dotV, dotO]) h2.1 (fun i hi K => ?_) (fun K => ?_)
  · simp only [st_zs_Dot_p0_0, law_S, Int.toNat_natCast]
    rw [dec_true (by omega), cond_true, and_true_of (inR_of (by omega) (by omega)), and_true_of (inR_of (by omega) (by omega)), and_true_of (fits_ok (by omega) (by omega))]
    simp only [dotV, dotO, Bool.or_assoc]
    rfl
  · simp only [st_zs_Dot_p0_0]
    rw [dec_false (by omega), cond_false]

def colL (xs : List Fl) (n j : Nat) : Nat -> List Fl
  | 0 => []
  | i + 1 => colL xs n j i ++ [elt xs n i j]
theorem colL_length (xs : List Fl) (n j : Nat) : ∀ i, (colL xs n j i).length = i
  | 0 => rfl
  | i + 1 => by simp [colL, colL_length xs n j i]
theorem law_Col {N n : Nat} {xs : List Fl} {j : Nat} (hn : n <= 12) (hN : 12 < N) (hl : xs.length = n * n) (hj : j < n) (k : List Fl -> Bool) : sq38 N n n xs j k = k (colL xs n j n) := by
  unfold sq38 Gq38
  refine iterG_eq0 (fun i => ((i : Int), colL xs n j i)) n rfl (by omega) (fun i hi K => ?_) (fun K => ?_)
  · simp only [st_z08_Col_0]
    rw [dec_true (by omega), cond_true, law_ref08_At hn hl hi hj, and_true_of (dec_true (by simp [colL_length]; omega)), and_true_of (fits_ok (by omega) (by omega))]
    rfl
  · simp only [st_z08_Col_0]
    rw [dec_false (by omega), cond_false]

def vL (xs h : List Fl) (n : Nat) : Nat -> List Fl
  | 0 => List.replicate n (some 0)
  | j + 1 => (vL xs h n j).set j (dotV (colL xs n j n) h n)
def vO (xs h : List Fl) (n : Nat) : Nat -> Bool
  | 0 => false
  | j + 1 => vO xs h n j || dotO (colL xs n j n) h n
theorem vL_length (xs h : List Fl) (n : Nat) : ∀ j, (vL xs h n j).length = n
  | 0 => by simp [vL]
  | j + 1 => by simp [vL, vL_length xs h n j]
def aStep (v a : List Fl) (j : Nat) : Fl := fadd (a.getD (j + 1) none) (fmul (v.getD j none) (v.getD j none))
def aL (v : List Fl) (r : Fl) (n : Nat) : Nat -> List Fl
  | 0 => (List.replicate (n + 1) (some 0)).set n r
  | i + 1 => (aL v r n i).set (n - 1 - i) (aStep v (aL v r n i) (n - 1 - i))
def aO (v : List Fl) (r : Fl) (n : Nat) : Nat -> Bool
  | 0 => false
  | i + 1 => (aO v r n i || !finF (fmul (v.getD (n - 1 - i) none) (v.getD (n - 1 - i) none))) || !finF (aStep v (aL v r n i) (n - 1 - i))
theorem aL_length (v : List Fl) (r : Fl) (n : Nat) : ∀ i, (aL v r n i).length = n + 1
  | 0 => by simp [aL]
  | i + 1 => by simp [aL, aL_length v r n i]

theorem law_foresee {N n : Nat} {x xs h : List Fl} {r : Fl} {o : Bool} (hN : 14 < N) (hn : n <= 12) (hx : x.length = n) (hl : xs.length = n * n) (hh : h.length = n) (k : Fl -> Bool -> List Fl -> List Fl -> Bool) :
    s_root_foresee_p0 N x n n xs h r o k = k (dotV h x n) (((o || vO xs h n n) || dotO h x n) || aO (vL xs h n n) r n n) (vL xs h n n) (aL (vL xs h n n) r n n) := by
  unfold s_root_foresee_p0 G_root_foresee_p0
  simp only [hx, Int.toNat_natCast, toNat_succ, List.length_replicate]
  rw [and_true_of (mkOk_ok (by omega) (by omega) (by omega) (by omega)), and_true_of (fits_ok (by omega) (by omega)), and_true_of (mkOk_ok (by omega) (by omega) (by omega) (by omega))]
  refine iterG_eq0 (fun j => ((j : Int), o || vO xs h n j, vL xs h n j)) n (by simp [vO, vL]) (by omega) (fun j hj K => ?_) (fun K => ?_)
  · simp only [st_root_foresee_p0_0]
    rw [dec_true (by omega), cond_true]
    refine iterG_eq0 (fun i => ((i : Int), colL xs n j i)) n rfl (by omega) (fun i hi K' => ?_) (fun K' => ?_)
    · simp only [st_root_foresee_p0_2, toNat_idx]
      have a1 := idx_lt hi hj
      have a2 := nn_le hn
      have a3 := in_le hn hi
      rw [dec_true (by omega), cond_true, and_true_of (fits_ok (by omega) (by omega)), and_true_of (fits_ok (by omega) (by omega)), and_true_of (inR_of (by omega) (by omega)), and_true_of (dec_true (by simp [colL_length]; omega)), and_true_of (fits_ok (by omega) (by omega))]
      rfl
    · simp only [st_root_foresee_p0_2]
      rw [dec_false (by omega), cond_false, law_dot _ _ _ _ (by rw [colL_length, hh]; exact Nat.le_refl _) ⟨by rw [colL_length]; omega, by rw [colL_length]; omega⟩]
      have e := vL_length xs h n j
      rw [and_true_of (inR_of (by omega) (by omega)), and_true_of (dec_true (by omega)), and_true_of (fits_ok (by omega) (by omega)), colL_length, Int.toNat_natCast]
      simp only [vL, vO, Bool.or_assoc]
      rfl
  · simp only [st_root_foresee_p0_0]
    rw [dec_false (by omega), cond_false, law_dot _ _ _ _ (by omega) ⟨by omega, by omega⟩, and_true_of (inR_of (by omega) (by omega)), and_true_of (dec_true (by omega)), and_true_of (fits_ok (by omega) (by omega)), hh]
    generalize hv : vL xs h n n = v
    have hvl : v.length = n := by rw [<- hv]; exact vL_length _ _ _ _
    generalize (o || vO xs h n n || dotO h x n) = o'
    refine iterG_eq0 (fun i => ((n : Int) - 1 - (i : Int), o' || aO v r n i, aL v r n i)) n (by simp [aO, aL]) (by omega) (fun i hi K' => ?_) (fun K' => ?_)
    · simp only [st_root_foresee_p0_4, aL, aO]
      have e1 : (n : Int) - 1 - (i : Int) = ((n - 1 - i : Nat) : Int) := by omega
      have e2 : (n : Int) - 1 - ((i + 1 : Nat) : Int) = ((n - 1 - i : Nat) : Int) - 1 := by omega
      have e3 : n - 1 - i < n := by omega
      have e4 := aL_length v r n i
      rw [e1, e2]
      generalize n - 1 - i = j at *
      rw [dec_true (by omega), cond_true]
      simp only [law_see, Int.toNat_natCast, toNat_succ]
      rw [and_true_of (fits_ok (by omega) (by omega)), and_true_of (inR_of (by omega) (by omega)), and_true_of (dec_true (by omega)), and_true_of (inR_of (by omega) (by omega)), and_true_of (dec_true (by omega)), and_true_of (inR_of (by omega) (by omega)), and_true_of (dec_true (by omega)), and_true_of (inR_of (by omega) (by omega)), and_true_of (dec_true (by omega)), and_true_of (fits_ok (by omega) (by omega))]
      simp only [aStep, Bool.or_assoc]
    · simp only [st_root_foresee_p0_4]
      rw [dec_false (by omega), cond_false]

theorem law_seen {N n : Nat} {x xs h : List Fl} {r : Fl} {o : Bool} (hN : 14 < N) (hn : n <= 12) (hx : x.length = n) (hl : xs.length = n * n) (hh : h.length = n) (k : Fl -> Bool -> List Fl -> List Fl -> Bool) :
    sq6 N x n n xs h r o k = k (dotV h x n) (((o || dotO h x n) || vO xs h n n) || aO (vL xs h n n) r n n) (vL xs h n n) (aL (vL xs h n n) r n n) := by
  unfold sq6 Gq6
  simp only [hh, Int.toNat_natCast, toNat_succ, List.length_replicate]
  rw [and_true_of (mkOk_ok (by omega) (by omega) (by omega) (by omega)), and_true_of (fits_ok (by omega) (by omega)), and_true_of (mkOk_ok (by omega) (by omega) (by omega) (by omega)),
    law_ref_dot _ _ _ _ (by omega) ⟨by omega, by omega⟩, and_true_of (inR_of (by omega) (by omega)), and_true_of (dec_true (by omega)), hh]
  generalize (o || dotO h x n) = o1
  refine iterG_eq0 (fun j => ((j : Int), o1 || vO xs h n j, vL xs h n j)) n (by simp [vO, vL]) (by omega) (fun j hj K => ?_) (fun K => ?_)
  · simp only [st_z16_seen_p0_0]
    rw [dec_true (by omega), cond_true, law_Col hn (by omega) hl hj, law_ref_dot _ _ _ _ (by rw [colL_length, hh]; exact Nat.le_refl _) ⟨by rw [colL_length]; omega, by rw [colL_length]; omega⟩]
    have e := vL_length xs h n j
    rw [and_true_of (inR_of (by omega) (by omega)), and_true_of (dec_true (by omega)), and_true_of (fits_ok (by omega) (by omega)), colL_length, Int.toNat_natCast]
    simp only [vL, vO, Bool.or_assoc]
    rfl
  · simp only [st_z16_seen_p0_0]
    rw [dec_false (by omega), cond_false, and_true_of (fits_ok (by omega) (by omega))]
    generalize hv : vL xs h n n = v
    have hvl : v.length = n := by rw [<- hv]; exact vL_length _ _ _ _
    generalize (o1 || vO xs h n n) = o'
    refine iterG_eq0 (fun i => ((n : Int) - 1 - (i : Int), o' || aO v r n i, aL v r n i)) n (by simp [aO, aL]) (by omega) (fun i hi K' => ?_) (fun K' => ?_)
    · simp only [st_z16_seen_p0_2, aL, aO]
      have e1 : (n : Int) - 1 - (i : Int) = ((n - 1 - i : Nat) : Int) := by omega
      have e2 : (n : Int) - 1 - ((i + 1 : Nat) : Int) = ((n - 1 - i : Nat) : Int) - 1 := by omega
      have e3 : n - 1 - i < n := by omega
      have e4 := aL_length v r n i
      rw [e1, e2]
      generalize n - 1 - i = j at *
      rw [dec_true (by omega), cond_true]
      simp only [law_S, Int.toNat_natCast, toNat_succ]
      rw [and_true_of (fits_ok (by omega) (by omega)), and_true_of (inR_of (by omega) (by omega)), and_true_of (dec_true (by omega)), and_true_of (inR_of (by omega) (by omega)), and_true_of (dec_true (by omega)), and_true_of (inR_of (by omega) (by omega)), and_true_of (dec_true (by omega)), and_true_of (inR_of (by omega) (by omega)), and_true_of (dec_true (by omega)), and_true_of (fits_ok (by omega) (by omega))]
      simp only [aStep, Bool.or_assoc]
    · simp only [st_z16_seen_p0_2]
      rw [dec_false (by omega), cond_false]

def fO (x xs h : List Fl) (r : Fl) (n : Nat) : Bool := (vO xs h n n || dotO h x n) || aO (vL xs h n n) r n n
def fA (xs h : List Fl) (r : Fl) (n : Nat) : List Fl := aL (vL xs h n n) r n n
theorem wchk_len {n : Nat} {h : List Fl} {r : Fl} (hw : wchk n h r = 0) : h.length = n := by
  unfold wchk at hw
  split at hw
  · omega
  · cases hw
theorem law_First2 {N : Nat} (a b : Int) (hN : 14 < N) (k : Int -> Bool) : sq7 N [a, b] k = k (if a ≠ 0 then a else b) := by
  obtain ⟨M, rfl⟩ : ∃ M, N = M + 10 := ⟨N - 10, by omega⟩
  have : sq7 (M + 10) [a, b] k = cond (a != 0) (k a) (cond (b != 0) (k b) (k 0)) := by kernel_rfl
  rw [this, ne_dec, ne_dec]
  by_cases h1 : a = 0 <;> by_cases h2 : b = 0 <;> simp [h1, h2]
theorem law_First3 {N : Nat} (a b c : Int) (hN : 14 < N) (k : Int -> Bool) : sq7 N [a, b, c] k = k (if a ≠ 0 then a else if b ≠ 0 then b else c) := by
  obtain ⟨M, rfl⟩ : ∃ M, N = M + 10 := ⟨N - 10, by omega⟩
  have : sq7 (M + 10) [a, b, c] k = cond (a != 0) (k a) (cond (b != 0) (k b) (cond (c != 0) (k c) (k 0))) := by kernel_rfl
  rw [this, ne_dec, ne_dec, ne_dec]
  by_cases h1 : a = 0 <;> by_cases h2 : b = 0 <;> by_cases h3 : c = 0 <;> simp [h1, h2, h3]
theorem law_fill {N n : Nat} (hN : 14 < N) (hn : n <= 12) (k : List Fl -> Bool) : sq25 N n n k = k (List.replicate (n * n) (some 0)) := by
  have a2 := nn_le hn
  have a2' : ((n : Int) * (n : Int)) = ((n * n : Nat) : Int) := by simp
  unfold sq25 Gq25
  rw [a2', and_true_of (fits_ok (by omega) (by omega)), and_true_of (mkOk_ok (by omega) (by omega) (by omega) (by omega))]
  refine iterG_eq0 (fun i => ((i : Int), List.replicate (i * n) (some 0))) n (by simp) (by omega) (fun i hi K => ?_) (fun K => ?_)
  · simp only [stq74]
    rw [dec_true (by omega), cond_true]
    have a3 := in_le hn hi
    refine iterG_eq0 (fun j => ((j : Int), List.replicate (i * n + j) (some 0))) n (by simp) (by omega) (fun j hj K' => ?_) (fun K' => ?_)
    · simp only [stq75, sq9, Gq9]
      rw [dec_true (by omega), cond_true, and_true_of (dec_true (by simp; omega)), and_true_of (fits_ok (by omega) (by omega)), <- List.replicate_succ']
      rfl
    · simp only [stq75]
      rw [dec_false (by omega), cond_false, and_true_of (fits_ok (by omega) (by omega)), <- Nat.succ_mul]
      rfl
  · simp only [stq74]
    rw [dec_false (by omega), cond_false]
theorem law_Zero {N n : Nat} (hN : 14 < N) (hn : n <= 12) (k0 : Int -> Int -> Int -> Bool) (k1 : Int -> List Fl -> Bool) : sq5 N n n k0 k1 = k1 0 (List.replicate (n * n) (some 0)) := by
  unfold sq5 Gq5
  simp only [law_size, law_fill hN hn]
  rw [dec_true ⟨by omega, by omega⟩]
  rfl
theorem law_Sqrt (N : Nat) (x : Fl) (k : Fl -> Bool) : sq20 N x k = k (fsqrt x) := rfl

def inStep (xs v : List Fl) (n j : Nat) (c t : Fl) (i : Nat) (s : Bool × List Fl × List Fl) : Bool × List Fl × List Fl :=
  (((((s.1 || !finF (fmul c (elt xs n i j))) || !finF (fmul t (s.2.1.getD i none))) || !finF (fsub (fmul c (elt xs n i j)) (fmul t (s.2.1.getD i none)))) || !finF (fmul (v.getD j none) (elt xs n i j)))
      || !finF (fadd (s.2.1.getD i none) (fmul (v.getD j none) (elt xs n i j))),
    s.2.1.set i (fadd (s.2.1.getD i none) (fmul (v.getD j none) (elt xs n i j))),
    s.2.2.set (i * n + j) (fsub (fmul c (elt xs n i j)) (fmul t (s.2.1.getD i none))))
def inL (xs v : List Fl) (n j : Nat) (c t : Fl) (w L : List Fl) : Nat -> Bool × List Fl × List Fl
  | 0 => (false, w, L)
  | d + 1 => inStep xs v n j c t (j + d) (inL xs v n j c t w L d)
theorem inL_length (xs v : List Fl) (n j : Nat) (c t : Fl) (w L : List Fl) : ∀ d, (inL xs v n j c t w L d).2.1.length = w.length /\ (inL xs v n j c t w L d).2.2.length = L.length
  | 0 => ⟨rfl, rfl⟩
  | d + 1 => by simp [inL, inStep, inL_length xs v n j c t w L d]
def colC (a : List Fl) (j : Nat) : Fl := fdiv (fsqrt (a.getD (j + 1) none)) (fsqrt (a.getD j none))
def colPQ (a : List Fl) (j : Nat) : Fl := fmul (fsqrt (a.getD j none)) (fsqrt (a.getD (j + 1) none))
def colT (v a : List Fl) (j : Nat) : Fl := fdiv (v.getD j none) (colPQ a j)
def outStep (xs v a : List Fl) (n j : Nat) (s : Bool × List Fl × List Fl) : Bool × List Fl × List Fl :=
  let u := inL xs v n j (colC a j) (colT v a j) s.2.1 s.2.2 (n - j)
  ((((s.1 || !finF (colC a j)) || !finF (colPQ a j)) || !finF (colT v a j)) || u.1, u.2.1, u.2.2)
def outL (xs v a : List Fl) (n : Nat) : Nat -> Bool × List Fl × List Fl
  | 0 => (false, List.replicate n (some 0), List.replicate (n * n) (some 0))
  | i + 1 => outStep xs v a n (n - 1 - i) (outL xs v a n i)
theorem outL_length (xs v a : List Fl) (n : Nat) : ∀ i, (outL xs v a n i).2.1.length = n /\ (outL xs v a n i).2.2.length = n * n
  | 0 => by simp [outL]
  | i + 1 => by
    have h := inL_length xs v n (n - 1 - i) (colC a (n - 1 - i)) (colT v a (n - 1 - i)) (outL xs v a n i).2.1 (outL xs v a n i).2.2 (n - (n - 1 - i))
    have h' := outL_length xs v a n i
    exact ⟨h.1.trans h'.1, h.2.trans h'.2⟩

theorem law_carlson {N n : Nat} {x xs v a : List Fl} {m : Fl} {o : Bool} (hN : 14 < N) (hn : n <= 12) (hx : x.length = n) (hl : xs.length = n * n) (hv : v.length = n) (ha : a.length = n + 1) (k0 : Int -> Int -> Bool -> List Fl -> Bool) (k1 : Int -> Int -> Bool -> List Fl -> List Fl -> Bool) :
    s_root_carlson_p0 N x n n xs m v a o k0 k1 = k1 n n (o || (outL xs v a n n).1) (outL xs v a n n).2.2 (outL xs v a n n).2.1 := by
  unfold s_root_carlson_p0 G_root_carlson_p0
  simp only [hx, law_Zero hN hn, Int.toNat_natCast]
  rw [and_true_of (mkOk_ok (by omega) (by omega) (by omega) (by omega)), and_true_of (fits_ok (by omega) (by omega))]
  refine iterG_eq0 (fun i => ((n : Int) - 1 - (i : Int), o || (outL xs v a n i).1, (outL xs v a n i).2.1, (outL xs v a n i).2.2)) n (by simp [outL]) (by omega) (fun i hi K => ?_) (fun K => ?_)
  · simp only [st_root_carlson_p0_0_1, outL]
    have e1 : (n : Int) - 1 - (i : Int) = ((n - 1 - i : Nat) : Int) := by omega
    have e2 : (n : Int) - 1 - ((i + 1 : Nat) : Int) = ((n - 1 - i : Nat) : Int) - 1 := by omega
    have e3 : n - 1 - i < n := by omega
    have e4 := outL_length xs v a n i
    rw [e1, e2]
    generalize n - 1 - i = j at *
    generalize outL xs v a n i = s at *
    obtain ⟨s1, w, L⟩ := s
    simp only at e4 ⊢
    rw [dec_true (by omega), cond_true]
    simp only [law_see, law_Sqrt, Int.toNat_natCast, toNat_succ]
    rw [and_true_of (inR_of (by omega) (by omega)), and_true_of (fits_ok (by omega) (by omega)), and_true_of (inR_of (by omega) (by omega)), and_true_of (inR_of (by omega) (by omega))]
    simp only [outStep]
    refine iterG_eq0 (fun d => ((j : Int) + (d : Int), ((((o || s1) || !finF (colC a j)) || !finF (colPQ a j)) || !finF (colT v a j)) || (inL xs v n j (colC a j) (colT v a j) w L d).1, (inL xs v n j (colC a j) (colT v a j) w L d).2.1, (inL xs v n j (colC a j) (colT v a j) w L d).2.2)) (n - j) (by simp [inL, colC, colPQ, colT]) (by omega) (fun d hd K' => ?_) (fun K' => ?_)
    · have e5 : (j : Int) + (d : Int) = ((j + d : Nat) : Int) := by omega
      have e6 : (j : Int) + ((d + 1 : Nat) : Int) = ((j + d : Nat) : Int) + 1 := by omega
      rw [e5, e6]
      simp only [st_root_carlson_p0_2_1, inL]
      have e7 := inL_length xs v n j (colC a j) (colT v a j) w L d
      have e8 : j + d < n := by omega
      generalize hi' : j + d = i' at *
      generalize inL xs v n j (colC a j) (colT v a j) w L d = u at *
      obtain ⟨u1, w', L'⟩ := u
      simp only at e7 ⊢
      have a1 := idx_lt e8 e3
      have a2 := nn_le hn
      have a3 := in_le hn e8
      rw [dec_true (by omega), cond_true]
      simp only [law_see, Int.toNat_natCast, toNat_idx]
      rw [and_true_of (fits_ok (by omega) (by omega)), and_true_of (fits_ok (by omega) (by omega)), and_true_of (inR_of (by omega) (by omega)), and_true_of (fits_ok (by omega) (by omega)), and_true_of (fits_ok (by omega) (by omega)),
        and_true_of (inR_of (by omega) (by omega)), and_true_of (dec_true (by omega)), and_true_of (inR_of (by omega) (by omega)), and_true_of (dec_true (by omega)),
        and_true_of (inR_of (by omega) (by omega)), and_true_of (dec_true (by omega)), and_true_of (inR_of (by omega) (by omega)), and_true_of (inR_of (by omega) (by omega)), and_true_of (dec_true (by omega)), and_true_of (fits_ok (by omega) (by omega))]
      simp only [inStep, elt, colC, colPQ, colT, Bool.or_assoc]
    · simp only [st_root_carlson_p0_2_1]
      rw [dec_false (by omega), cond_false, and_true_of (fits_ok (by omega) (by omega))]
      simp only [Bool.or_assoc]
  · simp only [st_root_carlson_p0_0_1]
    rw [dec_false (by omega), cond_false]

def gL (w a : List Fl) : Nat -> List Fl
  | 0 => []
  | i + 1 => gL w a i ++ [fdiv (w.getD i none) (a.getD 0 none)]
def xL (x w a : List Fl) (y : Fl) : Nat -> List Fl
  | 0 => []
  | i + 1 => xL x w a y i ++ [fadd (x.getD i none) (fmul (fdiv (w.getD i none) (a.getD 0 none)) y)]
def gO (x w a : List Fl) (y : Fl) : Nat -> Bool
  | 0 => false
  | i + 1 => ((gO x w a y i || !finF (fdiv (w.getD i none) (a.getD 0 none))) || !finF (fmul (fdiv (w.getD i none) (a.getD 0 none)) y)) || !finF (fadd (x.getD i none) (fmul (fdiv (w.getD i none) (a.getD 0 none)) y))
theorem gL_length (w a : List Fl) : ∀ i, (gL w a i).length = i
  | 0 => rfl
  | i + 1 => by simp [gL, gL_length w a i]
theorem xL_length (x w a : List Fl) (y : Fl) : ∀ i, (xL x w a y i).length = i
  | 0 => rfl
  | i + 1 => by simp [xL, xL_length x w a y i]

def uC (xs h : List Fl) (r : Fl) (n : Nat) : Bool × List Fl × List Fl := outL xs (vL xs h n n) (fA xs h r n) n n
def uY (x h : List Fl) (z : Fl) (n : Nat) : Fl := fsub z (dotV h x n)
def uS (xs h : List Fl) (r y : Fl) (n : Nat) : Fl := fdiv (fmul y y) ((fA xs h r n).getD 0 none)
def uO (x xs h : List Fl) (r z : Fl) (n : Nat) : Bool :=
  ((((fO x xs h r n || !finF (uY x h z n)) || (uC xs h r n).1) || !finF (fmul (uY x h z n) (uY x h z n))) || !finF (uS xs h r (uY x h z n) n)) || gO x (uC xs h r n).2.1 (fA xs h r n) (uY x h z n) n
theorem law_ended {N n : Nat} {X L : List Fl} (hN : 14 < N) (hn : n <= 12) (hl : L.length = n * n) (k0 : Int -> Int -> Int -> Bool) (k1 : Int -> Bool) : sq3 N n n X L k0 k1 = cond (abvP L n) (k1 0) (k0 0 0 93) := by
  unfold sq3 Gq3
  refine iterG_all0 (fun i => (i : Int)) (diaP L n) n rfl (by omega) (fun i hi K => ?_) (fun K => ?_)
  · simp only [stq78, sq43, Gq43]
    have a1 := idx_lt hi hi
    have a2 := nn_le hn
    have a3 := in_le hn hi
    rw [dec_true (by omega), cond_true, toNat_idx, and_true_of (fits_ok (by omega) (by omega)), and_true_of (fits_ok (by omega) (by omega)), and_true_of (inR_of (by omega) (by omega)), and_true_of (dec_true (by omega)), and_true_of (fits_ok (by omega) (by omega))]
    show cond (!diaP L n i) (k0 0 0 93) _ = _
    cases diaP L n i <;> rfl
  · simp only [stq78]
    rw [dec_false (by omega), cond_false]
theorem law_Raw {N n : Nat} (hn : n <= 12) (k : List Fl -> Bool) : sq31 N n n k = k (List.replicate (n * n) (some 0)) := by
  have a2 := nn_le hn
  have a2' : ((n : Int) * (n : Int)) = ((n * n : Nat) : Int) := by simp
  unfold sq31 Gq31
  rw [a2', and_true_of (fits_ok (by omega) (by omega)), and_true_of (mkOk_ok (by omega) (by omega) (by omega) (by omega)), Int.toNat_natCast]
theorem law_Put {N n i j : Nat} {y : Fl} {L : List Fl} (hn : n <= 12) (hl : L.length = n * n) (hi : i < n) (hj : j < n) (k : List Fl -> Bool) : sq14 N n n i j y L k = k (L.set (i * n + j) y) := by
  unfold sq14 Gq14
  have a1 := idx_lt hi hj
  have a2 := nn_le hn
  have a3 := in_le hn hi
  rw [toNat_idx, and_true_of (fits_ok (by omega) (by omega)), and_true_of (fits_ok (by omega) (by omega)), and_true_of (inR_of (by omega) (by omega)), and_true_of (dec_true (by omega))]
theorem law_If (N : Nat) (b : Bool) (e : Int) (k : Int -> Bool) : sq45 N b e k = k (if b = true then e else 0) := by cases b <;> rfl
theorem getD_gL (w a : List Fl) (i : Nat) (g : Fl) : (gL w a i ++ [g]).getD i none = g := by
  rw [List.getD_eq_getElem?_getD, List.getElem?_append_right (by simp [gL_length]), gL_length]; simp


theorem law_awake {N : Nat} (hN : 24 < N) (k : Bool -> Bool) : sq36 N k = k true := by
  obtain ⟨M, rfl⟩ : ∃ M, N = M + 20 := ⟨N - 20, by omega⟩
  kernel_rfl
theorem law_told_self {N : Nat} (a : List Fl) (r c : Int) (m : List Fl) (e : Int) (ha : Small N a.length) (hm : Small N m.length) (k : Bool -> Bool) : sq47 N a r c m e a r c m e k = k true := by
  unfold sq47 Gq47 sq61 Gq61 sq37 Gq37 sq40 Gq40
  simp only [law_SameList_self a ha, law_SameList_self m hm, beq_self_eq_true, cond_true]
theorem law_SameStep_self {N : Nat} (a b c : Fl) (g : List Fl) (hN : 14 < N) (hg : Small N g.length) (k : Bool -> Bool) : sq19 N a b c g a b c g k = k true := by
  unfold sq19 Gq19 sq40 Gq40
  have h3 : Small N [a, b, c].length := ⟨by simp; omega, by simp⟩
  simp only [law_SameList_self g hg, law_SameList_self _ h3, beq_self_eq_true, cond_true]


end Go.Proofs.Ytgngdkjghdohiaa
end
section
namespace Go.Proofs.Ytgngdkjghdohiaa
open Go Go.Mach
set_option linter.unusedVariables false

abbrev Told9 : Type := List Fl × Int × Int × List Fl × Fl × Fl × Fl × List Fl × Int
def ap9 (k : List Fl -> Int -> Int -> List Fl -> Fl -> Fl -> Fl -> List Fl -> Int -> Bool) (t : Told9) : Bool :=
  k t.1 t.2.1 t.2.2.1 t.2.2.2.1 t.2.2.2.2.1 t.2.2.2.2.2.1 t.2.2.2.2.2.2.1 t.2.2.2.2.2.2.2.1 t.2.2.2.2.2.2.2.2
def no9 (e : Int) : Told9 := ([], 0, 0, [], some 0, some 0, some 0, [], e)
def upd (x : List Fl) (r c : Int) (xs h : List Fl) (rr z : Fl) : Told9 :=
  let n := x.length
  if rchk x r c xs ≠ 0 then no9 (rchk x r c xs) else if wchk n h rr ≠ 0 then no9 (wchk n h rr)
  else if finF z = true then cond (uO x xs h rr z n) (no9 5) (cond (abvP (uC xs h rr n).2.2 n)
      (xL x (uC xs h rr n).2.1 (fA xs h rr n) (uY x h z n) n, n, n, (uC xs h rr n).2.2, uY x h z n, (fA xs h rr n).getD 0 none, uS xs h rr (uY x h z n) n, gL (uC xs h rr n).2.1 (fA xs h rr n) n, 0) (no9 93))
  else no9 4

theorem law_Update {N : Nat} (x : List Fl) (r c : Int) (xs h : List Fl) (rr z : Fl) (hN : 14 < N) (hx : Small N x.length) (hs : Small N xs.length) (hh : Small N h.length)
    (k : List Fl -> Int -> Int -> List Fl -> Fl -> Fl -> Fl -> List Fl -> Int -> Bool) :
    s_root_Update N x r c xs h rr z k = ap9 k (upd x r c xs h rr z) := by
  unfold s_root_Update G_root_Update upd
  simp only [law_root_Check x r c xs (by omega) hx hs, law_checkRow _ h rr hh, law_finite, ne_dec]
  by_cases h1 : rchk x r c xs = 0
  · obtain ⟨n, e1, rfl, rfl, hn, hl, -⟩ := rchk_zero h1
    have h1' : ¬ (rchk x n n xs ≠ 0) := by simpa using h1
    rw [dec_true h1, if_neg h1']
    by_cases h2 : wchk x.length h rr = 0
    · rw [dec_true h2, if_neg (by simpa using h2)]
      have e2 := wchk_len h2
      cases h3 : finF z with
      | false => rfl
      | true =>
        simp only [Bool.not_true, cond_false, if_true]
        rw [law_foresee hN hn e1 hl (by omega), e1]
        simp only [Bool.false_or]
        have e4 := aL_length (vL xs h n n) rr n n
        have e5 := vL_length xs h n n
        simp only [law_see]
        rw [law_carlson hN hn e1 hl e5 e4]
        have hu0 : outL xs (vL xs h n n) (aL (vL xs h n n) rr n n) n n = uC xs h rr n := rfl
        have hA0 : aL (vL xs h n n) rr n n = fA xs h rr n := rfl
        have hy0 : fsub z (dotV h x n) = uY x h z n := rfl
        rw [and_true_of (inR_of (by omega) (by omega)), and_true_of (dec_true (by omega)), and_true_of (inR_of (by omega) (by omega)), and_true_of (dec_true (by omega))]
        simp only [hu0]
        simp only [hA0, hy0]
        have e7 : (fA xs h rr n).length = n + 1 := e4
        have hf0 : (vO xs h n n || dotO h x n || aO (vL xs h n n) rr n n) = fO x xs h rr n := rfl
        simp only [hf0]
        cases hf : fO x xs h rr n with
        | true => simp only [cond_true, uO, hf, Bool.true_or]; rfl
        | false =>
          rw [cond_false]
          have hS0 : fdiv (fmul (uY x h z n) (uY x h z n)) ((fA xs h rr n).getD 0 none) = uS xs h rr (uY x h z n) n := rfl
          simp only [hS0]
          have e6 : (uC xs h rr n).2.1.length = n /\ (uC xs h rr n).2.2.length = n * n := outL_length _ _ _ _ _
          simp only [uO, hf]
          generalize hS1 : uS xs h rr (uY x h z n) n = sc at *
          generalize ((((false || !finF (uY x h z n)) || (uC xs h rr n).1) || !finF (fmul (uY x h z n) (uY x h z n))) || !finF sc) = o
          generalize hu : uC xs h rr n = u at *
          generalize hA : fA xs h rr n = a at *
          generalize hy : uY x h z n = y at *
          refine iterG_eq0 (fun i => ((i : Int), o || gO x u.2.1 a y i, gL u.2.1 a i, xL x u.2.1 a y i)) n (by simp [gO, gL, xL]) (by omega) (fun i hi K => ?_) (fun K => ?_)
          · simp only [st_root_Update_0_1, law_see, Int.toNat_natCast]
            rw [dec_true (by omega), cond_true, and_true_of (inR_of (by omega) (by omega)), and_true_of (dec_true (by omega)), and_true_of (inR_of (by omega) (by omega)), and_true_of (dec_true (by omega)), and_true_of (dec_true (by simp [gL_length]; omega)),
              and_true_of (inR_of (by omega) (by omega)), and_true_of (dec_true (by simp [xL_length]; omega)), and_true_of (fits_ok (by omega) (by omega))]
            simp only [gL, xL, gO, Bool.or_assoc]
            rfl
          · simp only [st_root_Update_0_1, J_root_Update_1, law_above hn (by omega : 12 < N) e6.2]
            rw [dec_false (by omega), cond_false]
            cases o || gO x u.2.1 a y n <;> cases abvP u.2.2 n <;> rfl
    · rw [dec_false h2, if_pos h2]; rfl
  · rw [dec_false h1, if_pos h1]; rfl


theorem law_ref_Update {N : Nat} (x : List Fl) (r c : Int) (xs h : List Fl) (rr z : Fl) (hN : 14 < N) (hx : Small N x.length) (hs : Small N xs.length) (hh : Small N h.length)
    (k : List Fl -> Int -> Int -> List Fl -> Fl -> Fl -> Fl -> List Fl -> Int -> Bool) :
    sq23 N x r c xs h rr z k = ap9 k (upd x r c xs h rr z) := by
  unfold sq23 Gq23 upd
  simp only [law_ref16_Check x r c xs (by omega) hx hs, law_Row _ h rr hh, law_ref_Finite, law_If, law_First3 _ _ _ hN, ne_dec]
  by_cases h1 : rchk x r c xs = 0
  · obtain ⟨n, e1, rfl, rfl, hn, hl, -⟩ := rchk_zero h1
    have h1' : ¬ (rchk x n n xs ≠ 0) := by simpa using h1
    rw [if_neg h1', if_neg h1']
    by_cases h2 : wchk x.length h rr = 0
    · have h2' : ¬ (wchk x.length h rr ≠ 0) := by simpa using h2
      rw [if_neg h2', if_neg h2']
      have e2 := wchk_len h2
      cases h3 : finF z with
      | false => rfl
      | true =>
        simp only [Bool.not_true, Bool.false_eq_true, if_false, if_true, decide_true, cond_false]
        rw [law_seen hN hn e1 hl (by omega), e1]
        have e3 : h.length = n := by omega
        simp only [Bool.false_or, law_S, e3, law_Raw hn, Int.toNat_natCast]
        rw [and_true_of (mkOk_ok (by omega) (by omega) (by omega) (by omega)), and_true_of (fits_ok (by omega) (by omega))]
        have hf : ((dotO h x n || vO xs h n n) || aO (vL xs h n n) rr n n) = fO x xs h rr n := by unfold fO; rw [Bool.or_comm (dotO h x n)]
        rw [hf]
        have e4 := aL_length (vL xs h n n) rr n n
        have e5 := vL_length xs h n n
        have e7 : (fA xs h rr n).length = n + 1 := e4
        have e6 : (uC xs h rr n).2.1.length = n /\ (uC xs h rr n).2.2.length = n * n := outL_length _ _ _ _ _
        have hA0 : aL (vL xs h n n) rr n n = fA xs h rr n := rfl
        have hy0 : fsub z (dotV h x n) = uY x h z n := rfl
        simp only [hA0, hy0]
        generalize hv : vL xs h n n = v at *
        generalize hA : fA xs h rr n = a at *
        have hu : uC xs h rr n = outL xs v a n n := by unfold uC; rw [hv, hA]
        refine iterG_eq0 (fun i => ((n : Int) - 1 - (i : Int), (fO x xs h rr n || !finF (uY x h z n)) || (outL xs v a n i).1, (outL xs v a n i).2.1, (outL xs v a n i).2.2)) n (by simp [outL]) (by omega) (fun i hi K => ?_) (fun K => ?_)
        · simp only [st_z16_Update_0, outL]
          generalize (fO x xs h rr n || !finF (uY x h z n)) = o
          have e1 : (n : Int) - 1 - (i : Int) = ((n - 1 - i : Nat) : Int) := by omega
          have e2 : (n : Int) - 1 - ((i + 1 : Nat) : Int) = ((n - 1 - i : Nat) : Int) - 1 := by omega
          have e3 : n - 1 - i < n := by omega
          have e4 := outL_length xs v a n i
          rw [e1, e2]
          generalize n - 1 - i = j at *
          generalize outL xs v a n i = s at *
          obtain ⟨s1, w, L⟩ := s
          simp only at e4 ⊢
          rw [dec_true (by omega), cond_true]
          simp only [law_S, law_Sqrt, Int.toNat_natCast, toNat_succ]
          rw [and_true_of (inR_of (by omega) (by omega)), and_true_of (dec_true (by omega)), and_true_of (fits_ok (by omega) (by omega)), and_true_of (inR_of (by omega) (by omega)), and_true_of (dec_true (by omega)), and_true_of (inR_of (by omega) (by omega)), and_true_of (dec_true (by omega))]
          simp only [outStep]
          refine iterG_eq0 (fun d => ((j : Int) + (d : Int), ((((o || s1) || !finF (colC a j)) || !finF (colPQ a j)) || !finF (colT v a j)) || (inL xs v n j (colC a j) (colT v a j) w L d).1, (inL xs v n j (colC a j) (colT v a j) w L d).2.1, (inL xs v n j (colC a j) (colT v a j) w L d).2.2)) (n - j) (by simp [inL, colC, colPQ, colT]) (by omega) (fun d hd K' => ?_) (fun K' => ?_)
          · have e5 : (j : Int) + (d : Int) = ((j + d : Nat) : Int) := by omega
            have e6 : (j : Int) + ((d + 1 : Nat) : Int) = ((j + d : Nat) : Int) + 1 := by omega
            rw [e5, e6]
            simp only [st_z16_Update_2, inL]
            have e7 := inL_length xs v n j (colC a j) (colT v a j) w L d
            have e8 : j + d < n := by omega
            generalize hi' : j + d = i' at *
            generalize inL xs v n j (colC a j) (colT v a j) w L d = u at *
            obtain ⟨u1, w', L'⟩ := u
            simp only at e7 ⊢
            rw [dec_true (by omega), cond_true, law_ref08_At hn hl e8 e3]
            simp only [law_S, Int.toNat_natCast, law_Put hn (e7.2.trans e4.2) e8 e3]
            rw [and_true_of (inR_of (by omega) (by omega)), and_true_of (dec_true (by omega)), and_true_of (inR_of (by omega) (by omega)), and_true_of (dec_true (by omega)),
              and_true_of (inR_of (by omega) (by omega)), and_true_of (dec_true (by omega)), and_true_of (inR_of (by omega) (by omega)), and_true_of (dec_true (by omega)), and_true_of (fits_ok (by omega) (by omega))]
            simp only [inStep, colC, colPQ, colT, Bool.or_assoc]
          · simp only [st_z16_Update_2]
            rw [dec_false (by omega), cond_false, and_true_of (fits_ok (by omega) (by omega))]
            simp only [Bool.or_assoc]
        · simp only [st_z16_Update_0]
          rw [dec_false (by omega), cond_false, <- hu]
          have hS : ∀ y, uS xs h rr y n = fdiv (fmul y y) (a.getD 0 none) := by intro y; unfold uS; rw [hA]
          simp only [uO, hS, hA]
          generalize fO x xs h rr n = f
          generalize hY : uY x h z n = y at *
          generalize uC xs h rr n = u at *
          refine iterG_eq0 (fun i => ((i : Int), ((f || !finF y) || u.1) || gO x u.2.1 a y i, gL u.2.1 a i, xL x u.2.1 a y i)) n (by simp [gO, gL, xL]) (by omega) (fun i hi K => ?_) (fun K => ?_)
          · simp only [st_z16_Update_4, law_S, Int.toNat_natCast, getD_gL]
            rw [dec_true (by omega), cond_true, and_true_of (inR_of (by omega) (by omega)), and_true_of (dec_true (by omega)), and_true_of (inR_of (by omega) (by omega)), and_true_of (dec_true (by omega)), and_true_of (dec_true (by simp [gL_length]; omega)),
              and_true_of (inR_of (by omega) (by omega)), and_true_of (inR_of (by omega) (by simp only [List.length_append, gL_length, List.length_singleton]; omega)), and_true_of (dec_true (by simp only [List.length_append, gL_length, List.length_singleton]; omega)), and_true_of (dec_true (by simp [xL_length]; omega)), and_true_of (fits_ok (by omega) (by omega))]
            simp only [gL, xL, gO, Bool.or_assoc]
            rfl
          · simp only [st_z16_Update_4, law_ended hN hn e6.2]
            rw [dec_false (by omega), cond_false, and_true_of (inR_of (by omega) (by omega)), and_true_of (dec_true (by omega)), and_true_of (inR_of (by omega) (by omega)), and_true_of (dec_true (by omega))]
            have hsw : ∀ p q r s : Bool, (((p || q) || r) || s) = (((p || r) || s) || q) := by decide
            rw [hsw]
            generalize (((((f || !finF y) || u.1) || !finF (fmul y y)) || !finF (fdiv (fmul y y) (a.getD 0 none))) || gO x u.2.1 a y n) = o
            cases o <;> cases abvP u.2.2 n <;> rfl
    · have h2' : wchk x.length h rr ≠ 0 := h2
      rw [if_pos h2', if_pos h2', dec_false h2]; rfl
  · have h1' : rchk x r c xs ≠ 0 := h1
    rw [if_pos h1', if_pos h1', dec_false h1]; rfl


theorem upd_len {x : List Fl} {r c : Int} {xs h : List Fl} {rr z : Fl} (h0 : (upd x r c xs h rr z).2.2.2.2.2.2.2.2 = 0) :
    (upd x r c xs h rr z).1.length <= 12 /\ (upd x r c xs h rr z).2.2.2.1.length <= 144 /\ (upd x r c xs h rr z).2.2.2.2.2.2.2.1.length <= 12 := by
  unfold upd at h0 ⊢
  simp only at h0 ⊢
  by_cases h1 : rchk x r c xs = 0
  · obtain ⟨n, e1, rfl, rfl, hn, hl, -⟩ := rchk_zero h1
    have h1' : ¬ (rchk x n n xs ≠ 0) := by simpa using h1
    rw [if_neg h1'] at h0 ⊢
    by_cases h2 : wchk x.length h rr = 0
    · have h2' : ¬ (wchk x.length h rr ≠ 0) := by simpa using h2
      rw [if_neg h2'] at h0 ⊢
      cases h3 : finF z with
      | false => exact ⟨by simp [no9], by simp [no9], by simp [no9]⟩
      | true =>
        simp only [if_true]
        have e6 := outL_length xs (vL xs h x.length x.length) (fA xs h rr x.length) x.length x.length
        have hnn := nn_le hn
        have d1 : (xL x (uC xs h rr x.length).2.1 (fA xs h rr x.length) (uY x h z x.length) x.length).length <= 12 := by rw [xL_length]; omega
        have d2 : (uC xs h rr x.length).2.2.length <= 144 := by
          show (outL xs (vL xs h x.length x.length) (fA xs h rr x.length) x.length x.length).2.2.length <= 144
          rw [e6.2, e1]; exact hnn
        have d3 : (gL (uC xs h rr x.length).2.1 (fA xs h rr x.length) x.length).length <= 12 := by rw [gL_length]; omega
        cases uO x xs h rr z x.length
        · cases abvP (uC xs h rr x.length).2.2 x.length
          · exact ⟨by simp [no9], by simp [no9], by simp [no9]⟩
          · exact ⟨d1, d2, d3⟩
        · exact ⟨by simp [no9], by simp [no9], by simp [no9]⟩
    · rw [if_pos h2]; exact ⟨by simp [no9], by simp [no9], by simp [no9]⟩
  · rw [if_pos h1]; exact ⟨by simp [no9], by simp [no9], by simp [no9]⟩

def rowI (h : List Fl) (c i : Nat) : List Fl := List.drop (i * c) (List.take ((i + 1) * c) h)
theorem rowI_len {h : List Fl} {c R i : Nat} (hl : h.length = R * c) (hi : i < R) : (rowI h c i).length = c := by
  have : (i + 1) * c <= R * c := Nat.mul_le_mul_right c hi
  unfold rowI
  rw [List.length_drop, List.length_take, Nat.min_eq_left (by omega), Nat.add_mul]; omega
theorem rowI_get {h : List Fl} {c R i j : Nat} (hl : h.length = R * c) (hi : i < R) (hj : j < c) : (rowI h c i)[j]? = h[i * c + j]? := by
  unfold rowI
  rw [List.getElem?_drop, List.getElem?_take, if_pos]
  rw [Nat.add_mul]; omega

abbrev Sofar : Type := List Fl × Int × Int × List Fl × List RY1
def rowsV (h rr zz : List Fl) (c R : Nat) : Nat -> Sofar -> (Nat × Int) ⊕ Sofar
  | 0, s => .inr s
  | m + 1, s =>
    let i := R - (m + 1)
    let t := upd s.1 s.2.1 s.2.2.1 s.2.2.2.1 (rowI h c i) (rr.getD i none) (zz.getD i none)
    if t.2.2.2.2.2.2.2.2 ≠ 0 then .inl (i, t.2.2.2.2.2.2.2.2)
    else rowsV h rr zz c R m (t.1, t.2.1, t.2.2.1, t.2.2.2.1, s.2.2.2.2 ++ [(t.2.2.2.2.1, t.2.2.2.2.2.1, t.2.2.2.2.2.2.1, t.2.2.2.2.2.2.2.1)])
def outV (v : (Nat × Int) ⊕ Sofar) (e0 : Int -> Int -> Int -> Int -> Bool) (e1 : List Fl -> Int -> Int -> List Fl -> List RY1 -> Bool) : Bool :=
  match v with
  | .inl (i, e) => e0 i e 0 0
  | .inr (X, r, c, L, l) => e1 X r c L l
def OkV (v : (Nat × Int) ⊕ Sofar) (R : Nat) : Prop :=
  match v with
  | .inl _ => True
  | .inr (X, _, _, L, l) => X.length <= 12 /\ L.length <= 144 /\ l.length = R /\ ∀ s ∈ l, s.2.2.2.length <= 12
theorem rowsV_ok (h rr zz : List Fl) (c R : Nat) : ∀ m (s : Sofar), m <= R -> s.1.length <= 12 -> s.2.2.2.1.length <= 144 -> s.2.2.2.2.length = R - m -> (∀ q ∈ s.2.2.2.2, q.2.2.2.length <= 12) -> OkV (rowsV h rr zz c R m s) R
  | 0, s, _, h1, h2, h3, h4 => ⟨h1, h2, by simpa using h3, h4⟩
  | m + 1, s, hm, h1, h2, h3, h4 => by
    unfold rowsV
    simp only
    generalize ht : upd s.1 s.2.1 s.2.2.1 s.2.2.2.1 (rowI h c (R - (m + 1))) (rr.getD (R - (m + 1)) none) (zz.getD (R - (m + 1)) none) = t
    by_cases h0 : t.2.2.2.2.2.2.2.2 = 0
    · rw [if_neg (by simpa using h0)]
      have hl : t.1.length <= 12 /\ t.2.2.2.1.length <= 144 /\ t.2.2.2.2.2.2.2.1.length <= 12 := by
        subst ht; exact upd_len h0
      refine rowsV_ok h rr zz c R m _ (by omega) hl.1 hl.2.1 (by simp only [List.length_append, List.length_singleton, h3]; omega) fun q hq => ?_
      rcases List.mem_append.1 hq with hq | hq
      · exact h4 q hq
      · rw [List.mem_singleton.1 hq]; exact hl.2.2
    · rw [if_pos h0]; trivial

theorem small_le {N n m : Nat} (hN : m < N) (h : n <= m) (hm : m <= 144) : Small N n := ⟨by omega, by omega⟩

theorem root_loop {N : Nat} {h rr zz : List Fl} {c R : Nat} (hN : 200 < N) (hl : h.length = R * c) (hc : c <= 12) (hR : R <= 12) (hr : rr.length = R) (hz : zz.length = R)
    (e0 : Int -> Int -> Int -> Int -> Bool) (e1 : List Fl -> Int -> Int -> List Fl -> List RY1 -> Bool) (a b : Int) :
    ∀ m M (s : Sofar), m <= R -> m < M -> s.1.length <= 12 -> s.2.2.2.1.length <= 144 -> s.2.2.2.2.length = R - m ->
      iterG M (st_root_Rows_0 N (s_root_Check N) (sq0 N) (s_root_Update N) rr zz (R : Int) (R : Int) (c : Int) h a b e0 e1) (((R - m : Nat) : Int), s.1, s.2.1, s.2.2.1, s.2.2.2.1, s.2.2.2.2) = outV (rowsV h rr zz c R m s) e0 e1 := by
  intro m
  induction m with
  | zero =>
    intro M s _ hM _ _ _
    obtain ⟨M, rfl⟩ : ∃ q, M = q + 1 := ⟨M - 1, by omega⟩
    show st_root_Rows_0 _ _ _ _ _ _ _ _ _ _ _ _ _ _ _ _ = _
    simp only [st_root_Rows_0, rowsV, outV]
    rw [dec_false (by omega), cond_false]
  | succ m ih =>
    intro M s hm hM h1 h2 h3
    obtain ⟨M, rfl⟩ : ∃ q, M = q + 1 := ⟨M - 1, by omega⟩
    show st_root_Rows_0 _ _ _ _ _ _ _ _ _ _ _ _ _ _ _ (iterG M _) = _
    have hi : R - (m + 1) < R := by omega
    have hi2 : R - m = R - (m + 1) + 1 := by omega
    have hrow := rowI_len hl hi
    simp only [st_root_Rows_0]
    unfold rowsV
    simp only
    have hmul : (R - (m + 1)) * c <= 144 := Nat.le_trans (Nat.mul_le_mul (by omega : R - (m + 1) <= 12) hc) (by omega)
    have hmul2 : (R - (m + 1) + 1) * c <= R * c := Nat.mul_le_mul_right c hi
    have hmul3 : R * c <= 144 := Nat.le_trans (Nat.mul_le_mul hR hc) (by omega)
    generalize hi' : R - (m + 1) = i at *
    have q1 : (i : Int) * (c : Int) = ((i * c : Nat) : Int) := by simp
    have q2 : ((i : Int) + 1) * (c : Int) = (((i + 1) * c : Nat) : Int) := by simp
    have q3 : (i + 1) * c = i * c + c := by rw [Nat.add_mul]; omega
    rw [q1, q2, dec_true (by omega), cond_true, and_true_of (fits_ok (by omega) (by omega)), and_true_of (fits_ok (by omega) (by omega)), and_true_of (fits_ok (by omega) (by omega)), and_true_of (dec_true (by omega)), and_true_of (inR_of (by omega) (by omega)), and_true_of (inR_of (by omega) (by omega))]
    simp only [Int.toNat_natCast]
    have hrw : List.drop (i * c) (List.take ((i + 1) * c) h) = rowI h c i := rfl
    rw [hrw, law_Update _ _ _ _ _ _ _ (by omega) (small_le (m := 12) (by omega) h1 (by omega)) (small_le (m := 144) (by omega) h2 (by omega)) (small_le (m := 12) (n := (rowI h c i).length) (by omega) (by omega) (by omega))]
    generalize ht : upd s.1 s.2.1 s.2.2.1 s.2.2.2.1 (rowI h c i) (rr.getD i none) (zz.getD i none) = t
    unfold ap9
    dsimp only
    by_cases h0 : t.2.2.2.2.2.2.2.2 = 0
    · have hl : t.1.length <= 12 /\ t.2.2.2.1.length <= 144 /\ t.2.2.2.2.2.2.2.1.length <= 12 := by subst ht; exact upd_len h0
      rw [ne_dec, dec_true h0, Bool.not_true, cond_false, if_neg (by simpa using h0), and_true_of (dec_true (by simp only [List.length_append, List.length_singleton, h3]; omega)), and_true_of (fits_ok (by omega) (by omega))]
      have := ih M (t.1, t.2.1, t.2.2.1, t.2.2.2.1, s.2.2.2.2 ++ [(t.2.2.2.2.1, t.2.2.2.2.2.1, t.2.2.2.2.2.2.1, t.2.2.2.2.2.2.2.1)]) (by omega) (by omega) hl.1 hl.2.1 (by simp only [List.length_append, List.length_singleton, h3]; omega)
      rw [hi2] at this
      exact this
    · rw [ne_dec, dec_false h0, Bool.not_false, cond_true, if_pos h0]; rfl

end Go.Proofs.Ytgngdkjghdohiaa
end
section
namespace Go.Proofs.Ytgngdkjghdohiaa
open Go Go.Mach
set_option linter.unusedVariables false

def fitsV (n hr hc : Int) (h rr zz : List Fl) : Int := if chk hr hc h ≠ 0 then chk hr hc h else if hc = n /\ (rr.length : Int) = hr /\ (zz.length : Int) = hr then 0 else 3
theorem law_Good11 {N : Nat} (r c : Int) (xs : List Fl) (hl : Small N xs.length) (k : Int -> Bool) : sq58 N r c xs k = k (chk r c xs) := by
  unfold sq58 Gq58
  rw [law_Good r c xs hl]
theorem law_Fits {N : Nat} (n hr hc : Int) (h rr zz : List Fl) (hh : Small N h.length) (k : Int -> Bool) : sq39 N n hr hc h rr zz k = k (fitsV n hr hc h rr zz) := by
  unfold sq39 Gq39 fitsV
  simp only [law_Good11 hr hc h hh, ne_dec]
  by_cases h0 : chk hr hc h = 0
  · rw [dec_true h0, if_neg (by simpa using h0)]
    by_cases h1 : hc = n
    · rw [dec_true h1]
      by_cases h2 : (rr.length : Int) = hr
      · rw [dec_true h2]
        by_cases h3 : (zz.length : Int) = hr
        · rw [dec_true h3, if_pos ⟨h1, h2, h3⟩]; rfl
        · rw [dec_false h3, if_neg (fun q => h3 q.2.2)]; rfl
      · rw [dec_false h2, if_neg (fun q => h2 q.2.1)]; rfl
    · rw [dec_false h1, if_neg (fun q => h1 q.1)]; rfl
  · rw [dec_false h0, if_pos h0]; rfl

theorem law_Row08 {N c R i : Nat} {h : List Fl} (hN : 14 < N) (hl : h.length = R * c) (hi : i < R) (hc : c <= 12) (hR : R <= 12) (k : List Fl -> Bool) : sq49 N R c h i k = k (rowI h c i) := by
  unfold sq49 Gq49
  have hlen := rowI_len hl hi
  have hm1 : (i + 1) * c <= R * c := Nat.mul_le_mul_right c hi
  have hm2 : R * c <= 144 := Nat.le_trans (Nat.mul_le_mul hR hc) (by omega)
  rw [Nat.add_mul] at hm1
  refine iterG_eq0 (fun j => ((j : Int), (rowI h c i).take j)) c (by simp) (by omega) (fun j hj K => ?_) (fun K => ?_)
  · simp only [st_z08_Row_0, sq21, Gq21]
    have q1 : (i : Int) * (c : Int) = ((i * c : Nat) : Int) := by simp
    rw [q1, dec_true (by omega), cond_true, and_true_of (fits_ok (by omega) (by omega)), and_true_of (fits_ok (by omega) (by omega)), and_true_of (inR_of (by omega) (by omega)), and_true_of (dec_true (by simp; omega)), and_true_of (fits_ok (by omega) (by omega))]
    have e1 : Int.toNat (((i * c : Nat) : Int) + (j : Int)) = i * c + j := by omega
    rw [e1]
    have e2 : (rowI h c i).take (j + 1) = (rowI h c i).take j ++ [h.getD (i * c + j) none] := by
      rw [List.take_succ_eq_append_getElem (by omega)]
      congr 2
      have := rowI_get hl hi hj
      rw [List.getElem?_eq_getElem (by omega)] at this
      rw [List.getD_eq_getElem?_getD, <- this]; rfl
    rw [e2]
    rfl
  · simp only [st_z08_Row_0]
    rw [dec_false (by omega), cond_false, List.take_of_length_le (by omega)]

theorem ref_loop {N : Nat} {h rr zz : List Fl} {c R : Nat} (hN : 200 < N) (hl : h.length = R * c) (hc : c <= 12) (hR : R <= 12) (hr : rr.length = R) (hz : zz.length = R)
    (e0 : Int -> Int -> Int -> Int -> Bool) (e1 : List Fl -> Int -> Int -> List Fl -> List RY1 -> Bool) (a b : Int) :
    ∀ m M (s : Sofar), m <= R -> m < M -> s.1.length <= 12 -> s.2.2.2.1.length <= 144 -> s.2.2.2.2.length = R - m ->
      iterG M (stq82 N (sq8 N) (sq39 N) (sq7 N) (sq49 N) (sq23 N) rr zz (R : Int) (c : Int) h a b e0 e1) (((R - m : Nat) : Int), s.1, s.2.1, s.2.2.1, s.2.2.2.1, s.2.2.2.2) = outV (rowsV h rr zz c R m s) e0 e1 := by
  intro m
  induction m with
  | zero =>
    intro M s _ hM _ _ _
    obtain ⟨M, rfl⟩ : ∃ q, M = q + 1 := ⟨M - 1, by omega⟩
    show stq82 _ _ _ _ _ _ _ _ _ _ _ _ _ _ _ _ _ = _
    simp only [stq82, rowsV, outV]
    rw [dec_false (by omega), cond_false]
  | succ m ih =>
    intro M s hm hM h1 h2 h3
    obtain ⟨M, rfl⟩ : ∃ q, M = q + 1 := ⟨M - 1, by omega⟩
    show stq82 _ _ _ _ _ _ _ _ _ _ _ _ _ _ _ _ (iterG M _) = _
    have hi : R - (m + 1) < R := by omega
    have hi2 : R - m = R - (m + 1) + 1 := by omega
    have hrow := rowI_len hl hi
    simp only [stq82]
    unfold rowsV
    simp only
    generalize hi' : R - (m + 1) = i at *
    rw [dec_true (by omega), cond_true, law_Row08 (by omega) hl hi hc hR, and_true_of (inR_of (by omega) (by omega)), and_true_of (inR_of (by omega) (by omega))]
    simp only [Int.toNat_natCast]
    rw [law_ref_Update _ _ _ _ _ _ _ (by omega) (small_le (m := 12) (by omega) h1 (by omega)) (small_le (m := 144) (by omega) h2 (by omega)) (small_le (m := 12) (n := (rowI h c i).length) (by omega) (by omega) (by omega))]
    generalize ht : upd s.1 s.2.1 s.2.2.1 s.2.2.2.1 (rowI h c i) (rr.getD i none) (zz.getD i none) = t
    unfold ap9
    dsimp only
    by_cases h0 : t.2.2.2.2.2.2.2.2 = 0
    · have hl : t.1.length <= 12 /\ t.2.2.2.1.length <= 144 /\ t.2.2.2.2.2.2.2.1.length <= 12 := by subst ht; exact upd_len h0
      rw [ne_dec, dec_true h0, Bool.not_true, cond_false, if_neg (by simpa using h0), and_true_of (dec_true (by simp only [List.length_append, List.length_singleton, h3]; omega)), and_true_of (fits_ok (by omega) (by omega))]
      have := ih M (t.1, t.2.1, t.2.2.1, t.2.2.2.1, s.2.2.2.2 ++ [(t.2.2.2.2.1, t.2.2.2.2.2.1, t.2.2.2.2.2.2.1, t.2.2.2.2.2.2.2.1)]) (by omega) (by omega) hl.1 hl.2.1 (by simp only [List.length_append, List.length_singleton, h3]; omega)
      rw [hi2] at this
      exact this
    · rw [ne_dec, dec_false h0, Bool.not_false, cond_true, if_pos h0]; rfl

def rowsR (x : List Fl) (r c : Int) (xs : List Fl) (hr hc : Int) (h rr zz : List Fl) : (Nat × Int) ⊕ Sofar :=
  if rchk x r c xs ≠ 0 then .inl (0, rchk x r c xs) else if fitsV x.length hr hc h rr zz ≠ 0 then .inl (0, fitsV x.length hr hc h rr zz)
  else rowsV h rr zz x.length hr.toNat hr.toNat (x, r, c, xs, [])
def outR (v : (Nat × Int) ⊕ Sofar) (k0 : Int -> Int -> Int -> Int -> Bool) (k1 : List Fl -> Int -> Int -> List Fl -> Int -> Int -> List RY1 -> Bool) : Bool :=
  match v with
  | .inl (i, e) => k0 0 0 i e
  | .inr (X, r, c, L, l) => k1 X r c L 0 0 l
theorem outV_outR (v : (Nat × Int) ⊕ Sofar) (k0 : Int -> Int -> Int -> Int -> Bool) (k1 : List Fl -> Int -> Int -> List Fl -> Int -> Int -> List RY1 -> Bool) :
    outV v (fun a b c d => k0 c d a b) (fun X r c L l => k1 X r c L 0 0 l) = outR v k0 k1 := by
  rcases v with ⟨i, e⟩ | ⟨X, r, c, L, l⟩ <;> rfl

theorem law_root_Rows {N : Nat} (x : List Fl) (r c : Int) (xs : List Fl) (hr hc : Int) (h rr zz : List Fl) (hN : 200 < N) (hx : Small N x.length) (hs : Small N xs.length) (hh : Small N h.length)
    (k0 : Int -> Int -> Int -> Int -> Bool) (k1 : List Fl -> Int -> Int -> List Fl -> Int -> Int -> List RY1 -> Bool) :
    s_root_Rows N x r c xs hr hc h rr zz k0 k1 = outR (rowsR x r c xs hr hc h rr zz) k0 k1 := by
  unfold s_root_Rows G_root_Rows rowsR
  simp only [law_root_Check x r c xs (by omega) hx hs, law_Check hr hc h hh, ne_dec]
  by_cases h1 : rchk x r c xs = 0
  · obtain ⟨n, e1, rfl, rfl, hn, hl, -⟩ := rchk_zero h1
    have h1' : ¬ (rchk x n n xs ≠ 0) := by simpa using h1
    rw [dec_true h1, if_neg h1']
    have hnn := nn_le hn
    by_cases h2 : chk hr hc h = 0
    · rw [dec_true h2]
      obtain ⟨⟨b1, b2⟩, b3, -⟩ := chk_zero.1 h2
      by_cases h3 : hc = (x.length : Int)
      · rw [dec_true h3]
        by_cases h4 : (rr.length : Int) = hr
        · rw [dec_true h4]
          by_cases h5 : (zz.length : Int) = hr
          · have hf : fitsV (x.length : Int) hr hc h rr zz = 0 := by unfold fitsV; rw [if_neg (by simpa using h2), if_pos ⟨h3, h4, h5⟩]
            rw [dec_true h5, if_neg (by simpa using hf)]
            have eR : (rr.length : Int).toNat = rr.length := Int.toNat_natCast _
            have ez : zz.length = rr.length := by omega
            subst h3
            subst h4
            have hh' : h.length = rr.length * x.length := by
              have : ((h.length : Nat) : Int) = ((rr.length * x.length : Nat) : Int) := by simpa using b3
              omega
            simp only [Bool.not_true, cond_false, List.nil_append, beq_self_eq_true, cond_true]
            rw [and_true_of (dec_true (by omega)), and_true_of (dec_true (by omega)), eR]
            have := root_loop (N := N) (h := h) (rr := rr) (zz := zz) (c := x.length) (R := rr.length) hN hh' (by omega) (by omega) rfl ez (fun a b c d => k0 c d a b) (fun X r c L l => k1 X r c L 0 0 l) 0 0 rr.length N (x, (n : Int), (n : Int), xs, []) (Nat.le_refl _) (by omega) (by show x.length <= 12; omega) (by show xs.length <= 144; omega) (by simp)
            rw [Nat.sub_self, outV_outR] at this
            exact this
          · have hf : fitsV (x.length : Int) hr hc h rr zz = 3 := by unfold fitsV; rw [if_neg (by simpa using h2), if_neg (fun q => h5 q.2.2)]
            rw [dec_false h5, hf, if_pos (by decide)]; rfl
        · have hf : fitsV (x.length : Int) hr hc h rr zz = 3 := by unfold fitsV; rw [if_neg (by simpa using h2), if_neg (fun q => h4 q.2.1)]
          rw [dec_false h4, hf, if_pos (by decide)]; rfl
      · have hf : fitsV (x.length : Int) hr hc h rr zz = 3 := by unfold fitsV; rw [if_neg (by simpa using h2), if_neg (fun q => h3 q.1)]
        rw [dec_false h3, hf, if_pos (by decide)]; rfl
    · have hf : fitsV (x.length : Int) hr hc h rr zz = chk hr hc h := by unfold fitsV; rw [if_pos h2]
      rw [dec_false h2, hf, if_pos h2]; rfl
  · rw [dec_false h1, if_pos h1]; rfl

theorem law_ref_Rows {N : Nat} (x : List Fl) (r c : Int) (xs : List Fl) (hr hc : Int) (h rr zz : List Fl) (hN : 200 < N) (hx : Small N x.length) (hs : Small N xs.length) (hh : Small N h.length)
    (k0 : Int -> Int -> Int -> Int -> Bool) (k1 : List Fl -> Int -> Int -> List Fl -> Int -> Int -> List RY1 -> Bool) :
    sq34 N x r c xs hr hc h rr zz k0 k1 = outR (rowsR x r c xs hr hc h rr zz) k0 k1 := by
  unfold sq34 Gq34 rowsR
  simp only [law_ref16_Check x r c xs (by omega) hx hs, law_Fits _ hr hc h rr zz hh, law_First2 _ _ (by omega : 14 < N), ne_dec]
  by_cases h1 : rchk x r c xs = 0
  · obtain ⟨n, e1, rfl, rfl, hn, hl, -⟩ := rchk_zero h1
    have h1' : ¬ (rchk x n n xs ≠ 0) := by simpa using h1
    rw [if_neg h1', if_neg h1']
    have hnn := nn_le hn
    by_cases h2 : fitsV (x.length : Int) hr hc h rr zz = 0
    · rw [dec_true h2, if_neg (by simpa using h2)]
      unfold fitsV at h2
      by_cases h3 : chk hr hc h = 0
      · rw [if_neg (by simpa using h3)] at h2
        by_cases h4 : hc = (x.length : Int) /\ (rr.length : Int) = hr /\ (zz.length : Int) = hr
        · obtain ⟨⟨b1, b2⟩, b3, -⟩ := chk_zero.1 h3
          obtain ⟨q1, q2, q3⟩ := h4
          have eR : (rr.length : Int).toNat = rr.length := Int.toNat_natCast _
          have ez : zz.length = rr.length := by omega
          subst q1
          subst q2
          have hh' : h.length = rr.length * x.length := by
            have : ((h.length : Nat) : Int) = ((rr.length * x.length : Nat) : Int) := by simpa using b3
            omega
          simp only [Bool.not_true, cond_false]
          rw [eR]
          have := ref_loop (N := N) (h := h) (rr := rr) (zz := zz) (c := x.length) (R := rr.length) hN hh' (by omega) (by omega) rfl ez (fun a b c d => k0 c d a b) (fun X r c L l => k1 X r c L 0 0 l) 0 0 rr.length N (x, (n : Int), (n : Int), xs, []) (Nat.le_refl _) (by omega) (by show x.length <= 12; omega) (by show xs.length <= 144; omega) (by simp)
          rw [Nat.sub_self, outV_outR] at this
          exact this
        · rw [if_neg h4] at h2; cases h2
      · rw [if_pos h3] at h2; exact absurd h2 h3
    · rw [dec_false h2, if_pos h2]; rfl
  · have h1' : rchk x r c xs ≠ 0 := h1
    rw [if_pos h1', if_pos h1', dec_false h1]; rfl

theorem law_SameSteps_self {N : Nat} (l : List RY1) (hN : 200 < N) (hl : l.length <= 12) (hg : ∀ q ∈ l, q.2.2.2.length <= 12) (k : Bool -> Bool) : sq13 N l l k = k true := by
  unfold sq13 Gq13
  have e0 : ((l.length : Int) != l.length) = false := by simp
  rw [e0, cond_false]
  refine (iterG_eq (fun i => (i : Int)) l.length (show l.length < N by omega) (fun i hi K => ?_) (fun K => ?_) : _)
  · simp only [stq77, Int.toNat_natCast]
    have hm : (l.getD i (none, (none, (none, [])))).2.2.2.length <= 12 := by
      rw [List.getD_eq_getElem?_getD, List.getElem?_eq_getElem hi]
      exact hg _ (List.getElem_mem hi)
    rw [dec_true (by omega), cond_true, and_true_of (inR_of (by omega) (by omega)), and_true_of (inR_of (by omega) (by omega)), law_SameStep_self _ _ _ _ (by omega) (small_le (m := 12) (by omega) hm (by omega))]
    rw [and_true_of (fits_ok (by omega) (by omega))]
    rfl
  · simp only [stq77]
    rw [dec_false (by omega), cond_false]

def rowsH (w : List RY0) : List Fl := (w.map fun q => of64 q.1).flatten
def rowsRR (w : List RY0) : List Fl := w.map fun q => canon q.2.1.toNat
def rowsZ (w : List RY0) : List Fl := w.map fun q => canon q.2.2.toNat
theorem take_snoc {α : Type} {w : List α} {i : Nat} (hi : i < w.length) (d : α) : w.take (i + 1) = w.take i ++ [w.getD i d] := by
  rw [List.take_succ_eq_append_getElem hi, List.getD_eq_getElem?_getD, List.getElem?_eq_getElem hi]; rfl
theorem rowsH_take (w : List RY0) (i : Nat) : (rowsH (w.take i)).length <= (rowsH w).length := by
  conv => rhs; rw [<- List.take_append_drop i w]
  unfold rowsH
  rw [List.map_append, List.flatten_append, List.length_append]; omega
theorem law_rows {N : Nat} (w : List RY0) (n : Int) (hw : Small N w.length) (hq : ∀ q ∈ w, Small N q.1.length) (ht : (rowsH w).length <= 17592186044416) (k : Int -> List Fl -> List Fl -> List Fl -> Bool) :
    sq44 N w n k = k w.length (rowsH w) (rowsRR w) (rowsZ w) := by
  unfold sq44 Gq44
  refine iterG_eq0 (fun i => ((i : Int), rowsRR (w.take i), rowsZ (w.take i), rowsH (w.take i))) w.length (by simp [rowsRR, rowsZ, rowsH]) hw.1 (fun i hi K => ?_) (fun K => ?_)
  · have h2 := hw.2
    simp only [st_zk_rows_0, Int.toNat_natCast]
    have hm : Small N (w.getD i ([], (0, 0))).1.length := by
      rw [List.getD_eq_getElem?_getD, List.getElem?_eq_getElem hi]
      exact hq _ (List.getElem_mem hi)
    have e := take_snoc hi (([], (0, 0)) : RY0)
    have e1 : rowsH (w.take (i + 1)) = rowsH (w.take i) ++ of64 (w.getD i ([], (0, 0))).1 := by rw [e]; simp [rowsH]
    have e2 : rowsRR (w.take (i + 1)) = rowsRR (w.take i) ++ [canon (w.getD i ([], (0, 0))).2.1.toNat] := by rw [e]; simp [rowsRR]
    have e3 : rowsZ (w.take (i + 1)) = rowsZ (w.take i) ++ [canon (w.getD i ([], (0, 0))).2.2.toNat] := by rw [e]; simp [rowsZ]
    have b1 := rowsH_take w (i + 1)
    rw [law_l _ hm, law_f, law_f, <- e1, <- e2, <- e3]
    have b2 : (rowsRR (w.take (i + 1))).length <= w.length := by simp [rowsRR]; omega
    have b3 : (rowsZ (w.take (i + 1))).length <= w.length := by simp [rowsZ]; omega
    rw [dec_true (by omega), cond_true, and_true_of (inR_of (by omega) (by omega)), and_true_of (dec_true (by omega)), and_true_of (inR_of (by omega) (by omega)), and_true_of (dec_true (by omega)), and_true_of (inR_of (by omega) (by omega)), and_true_of (dec_true (by omega)), and_true_of (fits_ok (by omega) (by omega))]
    rfl
  · simp only [st_zk_rows_0]
    rw [dec_false (by omega), cond_false, List.take_length]

theorem rowsR_ok {x : List Fl} {r c : Int} {xs : List Fl} {hr hc : Int} {h rr zz : List Fl} : OkV (rowsR x r c xs hr hc h rr zz) hr.toNat /\ ((∃ q, rowsR x r c xs hr hc h rr zz = .inr q) -> hr.toNat <= 12) := by
  unfold rowsR
  by_cases h1 : rchk x r c xs = 0
  · rw [if_neg (by simpa using h1)]
    obtain ⟨n, e1, rfl, rfl, hn, hl, -⟩ := rchk_zero h1
    have hnn := nn_le hn
    by_cases h2 : fitsV (x.length : Int) hr hc h rr zz = 0
    · rw [if_neg (by simpa using h2)]
      refine ⟨rowsV_ok _ _ _ _ _ _ _ (Nat.le_refl _) (by show x.length <= 12; omega) (by show xs.length <= 144; omega) (by simp) (by simp), fun _ => ?_⟩
      unfold fitsV at h2
      by_cases h3 : chk hr hc h = 0
      · obtain ⟨⟨b1, b2⟩, b3, -⟩ := chk_zero.1 h3; omega
      · rw [if_pos h3] at h2; exact absurd h2 h3
    · rw [if_pos h2]; exact ⟨trivial, fun ⟨q, e⟩ => by cases e⟩
  · rw [if_pos h1]; exact ⟨trivial, fun ⟨q, e⟩ => by cases e⟩

theorem law_J {N : Nat} (x : List Int) (r c : Int) (m : List Int) (w : List RY0) (n cut : Int) (rr zz : List Fl) (hr : Int) (h : List Fl) (hN : 200 < N) (hx : Small N x.length) (hm : Small N m.length) (hh : Small N h.length) (k : Bool -> Bool) :
    Jq67 N (sq44 N) (s_zk_of N) (s_root_Rows N) (sq34 N) (sq47 N) (sq13 N) (sq36 N) x r c m w n cut rr zz hr h k = k true := by
  unfold Jq67
  have hx' : Small N (of64 x).length := by rw [of64_length]; exact hx
  have hm' : Small N (of64 m).length := by rw [of64_length]; exact hm
  simp only [law_of x r c m hx hm]
  rw [law_root_Rows (of64 x) r c (of64 m) hr n h rr zz hN hx' hm' hh]
  obtain ⟨b1, b2⟩ := rowsR_ok (x := of64 x) (r := r) (c := c) (xs := of64 m) (hr := hr) (hc := n) (h := h) (rr := rr) (zz := zz)
  have hb0 : ((true : Bool) == true) = true := rfl
  cases hv : rowsR (of64 x) r c (of64 m) hr n h rr zz with
  | inl p =>
    obtain ⟨i, e⟩ := p
    simp only [outR]
    rw [law_ref_Rows (of64 x) r c (of64 m) hr n h rr zz hN hx' hm' hh, hv]
    simp only [outR]
    rw [law_told_self [] 0 0 [] e (small_le (m := 0) (by omega) (by simp) (by omega)) (small_le (m := 0) (by omega) (by simp) (by omega)), hb0, cond_true, law_SameSteps_self [] hN (by simp) (by simp), hb0, cond_true]
    have : (((i : Int) == (i : Int)) == true) = true := by simp
    rw [this, cond_true, law_awake (by omega)]
  | inr p =>
    obtain ⟨X, r', c', L, l⟩ := p
    rw [hv] at b1
    have b3 := b2 ⟨_, hv⟩
    obtain ⟨d1, d2, d3, d4⟩ := b1
    simp only [outR]
    rw [law_ref_Rows (of64 x) r c (of64 m) hr n h rr zz hN hx' hm' hh, hv]
    simp only [outR]
    rw [law_told_self X r' c' L 0 (small_le (m := 12) (by omega) d1 (by omega)) (small_le (m := 144) (by omega) d2 (by omega)), hb0, cond_true, law_SameSteps_self l hN (by omega) d4, hb0, cond_true]
    have : (((0 : Int) == (0 : Int)) == true) = true := rfl
    rw [this, cond_true, law_awake (by omega)]

theorem law_RootRows {N : Nat} (x : List Int) (r c : Int) (m : List Int) (w : List RY0) (n cut : Int) (hN : 200 < N) (hx : Small N x.length) (hm : Small N m.length) (hw : Small N w.length) (hq : ∀ q ∈ w, Small N q.1.length) (ht : Small N (rowsH w).length)
    (hcut : -9223372036854775808 <= cut /\ cut <= 9223372036854775807) (k : Bool -> Bool) :
    sq41 N x r c m w n cut k = k true := by
  unfold sq41 Gq41
  rw [law_rows w n hw hq ht.2]
  have hz : (rowsZ w).length = w.length := by simp [rowsZ]
  have h2 := hw.2
  by_cases c1 : cut > 0
  · rw [dec_true c1]
    by_cases c2 : cut <= ((rowsZ w).length : Int)
    · rw [dec_true c2, and_true_of (fits_ok (by omega) (by omega)), and_true_of (dec_true (by omega))]
      simp only [beq_self_eq_true, cond_true]
      exact law_J x r c m w n cut _ _ _ _ hN hx hm ht k
    · rw [dec_false c2]
      simp only [beq_self_eq_true, cond_true, cond_false]
      exact law_J x r c m w n cut _ _ _ _ hN hx hm ht k
  · rw [dec_false c1]
    exact law_J x r c m w n cut _ _ _ _ hN hx hm ht k

end Go.Proofs.Ytgngdkjghdohiaa
end
