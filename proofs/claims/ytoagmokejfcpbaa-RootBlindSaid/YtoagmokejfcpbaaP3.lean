/-
  PURE: lists of floats; what is finite; matrices and rows that may be (the program and the document).
  Conditions: N large, lists short.
-/
import Derived.Test.YtoagmokejfcpbaaP2
namespace Go.Proofs.Ytoagmokejfcpbaa
open Go Go.Mach

theorem cond_k (b : Bool) (k : Bool → Bool) : cond b (k true) (k false) = k b := by cases b <;> rfl
theorem and_true_of {a c : Bool} (h : a = true) : (a && c) = c := by rw [h]; rfl
/-- short: what all loops need -/
def Small (N n : Nat) : Prop := n < N ∧ n ≤ 17592186044416
theorem toNat_idx (i n j : Nat) : Int.toNat ((i : Int) * (n : Int) + (j : Int)) = i * n + j := by
  rw [← Int.natCast_mul, ← Int.natCast_add, Int.toNat_natCast]

/-! ### bits as floats -/
def of64 (l : List Int) : List Fl := l.map fun n => canon n.toNat
theorem of64_length (l : List Int) : (of64 l).length = l.length := by simp [of64]
theorem law_Of64 {N : Nat} (l : List Int) (hl : Small N l.length) (k : List Fl → Bool) : s_binnacleref01_Of64 N l k = k (of64 l) := by
  unfold s_binnacleref01_Of64 G_binnacleref01_Of64 s_math_Float64frombits
  refine (iterG_eq (fun i => ((i : Int), (l.take i).map fun n => canon n.toNat)) l.length hl.1 (fun i hi K => ?_) (fun K => ?_) : _)
  · have h2 := hl.2
    have e1 : (l.take (i + 1)).map (fun n => canon n.toNat) = (l.take i).map (fun n => canon n.toNat) ++ [canon (l.getD i 0).toNat] := by
      rw [List.take_succ_eq_append_getElem hi, List.map_append, List.getD_eq_getElem?_getD, List.getElem?_eq_getElem hi]; rfl
    simp only [st_binnacleref01_Of64_0, Int.toNat_natCast]
    rw [dec_true (by omega), cond_true, and_true_of (inR_of (by omega) (by omega)), and_true_of (dec_true (by simp; omega)), and_true_of (fits_ok (by omega) (by omega)), e1]
    rfl
  · simp only [st_binnacleref01_Of64_0]
    rw [dec_false (by omega), cond_false, List.take_length]; rfl
theorem law_l {N : Nat} (l : List Int) (hl : Small N l.length) (k : List Fl → Bool) : s_binnaclelaw16_l N l k = k (of64 l) := by
  unfold s_binnaclelaw16_l G_binnaclelaw16_l
  rw [law_Of64 l hl]
theorem law_mat {N : Nat} (r c : Int) (l : List Int) (hl : Small N l.length) (k : List Fl → Bool) : s_binnaclelaw16_mat N r c l k = k (of64 l) := by
  unfold s_binnaclelaw16_mat G_binnaclelaw16_mat
  rw [law_l l hl]
theorem law_of {N : Nat} (x : List Int) (r c : Int) (l : List Int) (hx : Small N x.length) (hl : Small N l.length) (k : List Fl → List Fl → Bool) : s_binnaclelaw16_of N x r c l k = k (of64 x) (of64 l) := by
  unfold s_binnaclelaw16_of G_binnaclelaw16_of
  simp only [law_l x hx, law_mat r c l hl]
theorem law_f (N : Nat) (b : Int) (k : Fl → Bool) : s_binnaclelaw16_f N b k = k (canon b.toNat) := by rfl

/-! ### finite -/
def allFin (xs : List Fl) : Bool := allN (fun i => finF (xs.getD i none)) xs.length
theorem law_Finite {N : Nat} (xs : List Fl) (hl : Small N xs.length) (k : Bool → Bool) : s_anatomy_Finite N xs k = k (allFin xs) := by
  unfold s_anatomy_Finite G_anatomy_Finite s_anatomy_Class_2
  rw [← cond_k (allFin xs) k]
  refine (iterG_all (fun i => (i : Int)) (fun i => finF (xs.getD i none)) xs.length hl.1 (fun i hi K => ?_) (fun K => ?_) : _)
  · have h2 := hl.2
    simp only [st_anatomy_Finite_0, Int.toNat_natCast]
    rw [dec_true (by omega), cond_true, and_true_of (inR_of (by omega) (by omega)), and_true_of (fits_ok (by omega) (by omega))]
    have hc := clsF_fin (xs.getD i none)
    generalize clsF (xs.getD i none) = c at hc ⊢
    generalize finF (xs.getD i none) = f at hc ⊢
    have d1 : (c == 1) = decide (c = 1) := rfl
    have d2 : (c == 2) = decide (c = 2) := rfl
    rw [d1, d2]
    generalize decide (c = 1) = u at *
    generalize decide (c = 2) = v at *
    cases u <;> cases v <;> cases f <;> first | rfl | cases hc
  · simp only [st_anatomy_Finite_0]
    rw [dec_false (by omega), cond_false]
theorem law_finite (N : Nat) (x : Fl) (k : Bool → Bool) : s_root_finite N x k = k (finF x) := congrArg k (fin_eq x)
theorem law_see (N : Nat) (x : Fl) (o : Bool) (k : Bool → Bool) : s_root_steps_see N x o k = k (o || !finF x) := by
  unfold s_root_steps_see G_root_steps_see
  simp only [law_finite]
  cases o <;> rfl

def bitsF : Fl → Nat
  | none => 9221120237041090561
  | some b => cnb b
theorem order_self (d : Ieee.Datum) (h : d.isNaN = false) : d.order d = some .eq := by
  cases d with
  | nan s t => cases h
  | infinity s => simp [Ieee.Datum.order, compare, compareOfLessAndEq]
  | number s m i => simp [Ieee.Datum.order, compare, compareOfLessAndEq]
theorem feq_self' (b : Nat) (h : isNaN b = false) : (Ieee.double.order b b == some .eq) = true := by
  unfold Ieee.Format.order
  rw [order_self _ h]; rfl
theorem feq_self (b : Nat) : feq (some b) (some b) = !isNaN b := by
  cases h : isNaN b with
  | true => simp [feq, ford, order_nan_left b h]
  | false => simp only [feq, ford, Bool.not_false]; exact feq_self' b h
theorem law_Bits (N : Nat) (x : Fl) (k : Int → Bool) : s_binnacleref01_Bits N x k = k (bitsF x) := by
  unfold s_binnacleref01_Bits G_binnacleref01_Bits s_math_Float64bits_2
  cases x with
  | none => rfl
  | some b =>
    rw [feq_self]
    simp only [bitsF, cnb]
    cases isNaN b <;> rfl
theorem nat_tmod (a b : Nat) : Int.tmod (a : Int) (b : Int) = ((a % b : Nat) : Int) := by
  rw [Int.tmod_eq_emod_of_nonneg (by omega)]; rfl
theorem law_Split (N : Nat) (x : Fl) (k : Bool → Int → Int → Bool) : s_binnacleref01_Split N x k = k (Int.fdiv (bitsF x : Int) (2 ^ 63) == 1) ((bitsF x / 4503599627370496 % 2048 : Nat) : Int) ((bitsF x % 4503599627370496 : Nat) : Int) := by
  unfold s_binnacleref01_Split G_binnacleref01_Split
  simp only [law_Bits]
  have e1 : (2 : Int) ^ 52 = ((4503599627370496 : Nat) : Int) := by decide
  have e2 : (2048 : Int) = ((2048 : Nat) : Int) := rfl
  have e3 : (4503599627370496 : Int) = ((4503599627370496 : Nat) : Int) := rfl
  rw [e1, e2, e3, nat_fdiv, nat_tmod, nat_tmod, fits_ok (by omega) (by omega)]
  rfl
theorem clsF_bits (x : Fl) : clsF x = if (bitsF x / 4503599627370496 % 2048) = 2047 then (if bitsF x % 4503599627370496 = 0 then 2 else 1) else if bitsF x / 4503599627370496 % 2048 = 0 then (if bitsF x % 4503599627370496 = 0 then 3 else 4) else 5 := by
  cases x with
  | none => decide
  | some b => exact cls_cnb b
theorem law_ref_Class (N : Nat) (x : Fl) (k : Int → Bool) : s_binnacleref01_Class N x k = k (clsF x) := by
  unfold s_binnacleref01_Class G_binnacleref01_Class s_binnacleref01_classify G_binnacleref01_classify
  simp only [law_Split, clsF_bits x]
  generalize bitsF x / 4503599627370496 % 2048 = e
  generalize bitsF x % 4503599627370496 = f
  have d1 : ((e : Int) == 2047) = decide (e = 2047) := by rw [Bool.eq_iff_iff, beq_iff_eq, decide_eq_true_iff]; omega
  have d2 : ((e : Int) == 0) = decide (e = 0) := by rw [Bool.eq_iff_iff, beq_iff_eq, decide_eq_true_iff]; omega
  have d3 : ((f : Int) == 0) = decide (f = 0) := by rw [Bool.eq_iff_iff, beq_iff_eq, decide_eq_true_iff]; omega
  simp only [bne, d1, d2, d3]
  by_cases h1 : e = 2047 <;> by_cases h2 : e = 0 <;> by_cases h3 : f = 0 <;> simp [h1, h2, h3]
theorem law_ref_Finite (N : Nat) (x : Fl) (k : Bool → Bool) : s_binnacleref01_Finite N x k = k (finF x) := by
  unfold s_binnacleref01_Finite G_binnacleref01_Finite
  simp only [law_ref_Class]
  congr 1
  have h1 := clsF_fin x
  have h2 := clsF_lo x
  rw [Bool.eq_iff_iff, decide_eq_true_iff]
  cases hf : finF x with
  | true =>
    rw [hf] at h1
    simp only [Bool.not_true, Bool.or_eq_false_iff, decide_eq_false_iff_not] at h1
    exact ⟨fun _ => rfl, fun _ => by omega⟩
  | false =>
    rw [hf] at h1
    simp only [Bool.not_false, Bool.or_eq_true, decide_eq_true_eq] at h1
    exact ⟨fun _ => by omega, fun h => by cases h⟩
theorem law_AllFinite {N : Nat} (xs : List Fl) (hl : Small N xs.length) (k : Bool → Bool) : s_binnacleref01_AllFinite N xs k = k (allFin xs) := by
  unfold s_binnacleref01_AllFinite G_binnacleref01_AllFinite
  rw [← cond_k (allFin xs) k]
  refine (iterG_all (fun i => (i : Int)) (fun i => finF (xs.getD i none)) xs.length hl.1 (fun i hi K => ?_) (fun K => ?_) : _)
  · have h2 := hl.2
    simp only [st_binnacleref01_AllFinite_0, Int.toNat_natCast, law_ref_Finite]
    rw [dec_true (by omega), cond_true, and_true_of (inR_of (by omega) (by omega)), and_true_of (fits_ok (by omega) (by omega))]
    cases finF (xs.getD i none) <;> rfl
  · simp only [st_binnacleref01_AllFinite_0]
    rw [dec_false (by omega), cond_false]
theorem law_S (N : Nat) (x : Fl) (o : Bool) (k : Bool → Bool) : s_binnacleref09_Steps_S N x o k = k (o || !finF x) := by
  unfold s_binnacleref09_Steps_S G_binnacleref09_Steps_S
  simp only [law_ref_Finite]
  cases o <;> rfl
theorem bitsF_cn (x y : Fl) : ((bitsF x : Int) == bitsF y) = decide (cn x = cn y) := by
  have hq : cn (some 9221120237041090561) = none := by decide
  have hb : cnb 9221120237041090561 = 9221120237041090561 := by decide
  have key : ∀ x, ∃ a, bitsF x = cnb a ∧ cn x = cn (some a) := by
    intro x
    cases x with
    | none => exact ⟨9221120237041090561, hb.symm, hq.symm⟩
    | some b => exact ⟨b, rfl, rfl⟩
  obtain ⟨a, e1, e2⟩ := key x
  obtain ⟨b, e3, e4⟩ := key y
  rw [e1, e2, e3, e4, ← cnb_cn a b (.inr trivial)]
  rfl
theorem law_ref_Same (N : Nat) (x y : Fl) (k : Bool → Bool) : s_binnacleref01_Same N x y k = k (decide (cn x = cn y)) := by
  unfold s_binnacleref01_Same G_binnacleref01_Same
  simp only [law_Bits, bitsF_cn]

/-! ### lists that are the same -/
theorem law_SameList_self {N : Nat} (xs : List Fl) (hl : Small N xs.length) (k : Bool → Bool) : s_binnacleref01_SameList N xs xs k = k true := by
  unfold s_binnacleref01_SameList G_binnacleref01_SameList
  have e0 : ((xs.length : Int) != xs.length) = false := by simp
  rw [e0, cond_false]
  refine (iterG_eq (fun i => (i : Int)) xs.length hl.1 (fun i hi K => ?_) (fun K => ?_) : _)
  · have h2 := hl.2
    simp only [st_binnacleref01_SameList_0, Int.toNat_natCast, law_ref_Same]
    rw [dec_true (by omega), cond_true, and_true_of (inR_of (by omega) (by omega)), and_true_of (inR_of (by omega) (by omega)), and_true_of (fits_ok (by omega) (by omega)), dec_true trivial]
    rfl
  · simp only [st_binnacleref01_SameList_0]
    rw [dec_false (by omega), cond_false]

end Go.Proofs.Ytoagmokejfcpbaa
