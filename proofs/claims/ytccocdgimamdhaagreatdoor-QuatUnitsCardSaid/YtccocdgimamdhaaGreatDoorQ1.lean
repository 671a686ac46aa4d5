/-
  PURE: what looks at a float's bits: its class, whether two are the same, its amount.
  Conditions: none.
-/
import Derived.Test.YtccocdgimamdhaaGreatDoorGp
namespace Go.Proofs.YtccocdgimamdhaaGreatDoor
open Go Go.Mach

theorem nat_fdiv (a b : Nat) : Int.fdiv (a : Int) (b : Int) = ((a / b : Nat) : Int) := by
  rw [Int.fdiv_eq_ediv_of_nonneg _ (by omega)]; rfl
theorem law_format_sign (N : Nat) (k : Int -> Bool) : sj177 N 52 2047 1075 k = k 9223372036854775808 := by rfl
theorem law_format_infinite (N : Nat) (k : Int -> Bool) : sj102 N 52 2047 1075 k = k 9218868437227405312 := by rfl
theorem law_format_hidden (N : Nat) (k : Int -> Bool) : sj81 N 52 2047 1075 k = k 4503599627370496 := by rfl
theorem law_format_none (N : Nat) (k : Int -> Bool) : sj192 N 52 2047 1075 k = k 9221120237041090561 := by
  unfold sj192 Gj192
  simp only [law_format_infinite, law_format_hidden]
  exact congrArg k (by decide)
theorem law_nan (N : Nat) (b : Nat) (k : Bool -> Bool) : sj101 N b 52 2047 1075 k = k (isNaN b) := by
  unfold sj101 Gj101
  simp only [law_format_sign, law_format_infinite, bitsN_andNot_top]
  congr 1
  rw [Bool.eq_iff_iff, decide_eq_true_iff, isNaN_iff]
  omega
def cnb (b : Nat) : Nat := if isNaN b then 9221120237041090561 else b
theorem law_canon (N : Nat) (b : Nat) (k : Int -> Bool) : sj83 N b 52 2047 1075 k = k (cnb b) := by
  unfold sj83 Gj83
  simp only [law_nan, law_format_none, cnb]
  cases isNaN b <;> rfl
theorem law_split (N : Nat) (b : Nat) (k : Bool -> Int -> Int -> Bool) : sj30 N b 52 2047 1075 k = k (bitsN .and .u64 (cnb b) 9223372036854775808 != 0) ((cnb b / 4503599627370496 % 2048 : Nat) : Int) ((cnb b % 4503599627370496 : Nat) : Int) := by
  unfold sj30 Gj30
  simp only [law_canon, law_format_sign, law_format_hidden]
  have e1 : (2 : Int) ^ (min (Int.toNat 52) 64) = ((4503599627370496 : Nat) : Int) := by decide
  have e2 : IntKind.wrap .u64 2047 = ((2 ^ 11 - 1 : Nat) : Int) := by decide
  have e3 : IntKind.wrap .u64 (4503599627370496 - 1) = ((2 ^ 52 - 1 : Nat) : Int) := by decide
  have e4 : decide ((0 : Int) <= 52) = true := by decide
  rw [e1, nat_fdiv, e2, e3, bitsN_and_mask _ _ (by decide), bitsN_and_mask _ _ (by decide), e4, fits_ok (by omega) (by omega)]
  rfl
theorem cls_cnb (b : Nat) : cls b = if (cnb b / 4503599627370496 % 2048) = 2047 then (if cnb b % 4503599627370496 = 0 then 2 else 1) else if cnb b / 4503599627370496 % 2048 = 0 then (if cnb b % 4503599627370496 = 0 then 3 else 4) else 5 := by
  unfold cls cnb
  by_cases h : isNaN b = true
  · rw [if_pos h, if_pos h]; decide
  · rw [if_neg h, if_neg h]
    have hn : ¬ (9218868437227405312 < b % 9223372036854775808) := fun q => h ((isNaN_iff b).2 q)
    by_cases h1 : b / 4503599627370496 % 2048 = 2047
    · rw [if_pos h1, if_pos h1, if_pos (by omega)]
    · rw [if_neg h1, if_neg h1]
theorem law_class (N : Nat) (b : Nat) (k : Int -> Bool) : sj29 N b 52 2047 1075 k = k (cls b) := by
  unfold sj29 Gj29
  simp only [law_split, cls_cnb b]
  generalize cnb b / 4503599627370496 % 2048 = e
  generalize cnb b % 4503599627370496 = f
  have d1 : ((e : Int) == 2047) = decide (e = 2047) := by rw [Bool.eq_iff_iff, beq_iff_eq, decide_eq_true_iff]; omega
  have d2 : ((e : Int) == 0) = decide (e = 0) := by rw [Bool.eq_iff_iff, beq_iff_eq, decide_eq_true_iff]; omega
  have d3 : ((f : Int) == 0) = decide (f = 0) := by rw [Bool.eq_iff_iff, beq_iff_eq, decide_eq_true_iff]; omega
  simp only [bne, d1, d2, d3]
  by_cases h1 : e = 2047 <;> by_cases h2 : e = 0 <;> by_cases h3 : f = 0 <;> simp [h1, h2, h3]
theorem law_Class (N : Nat) (b : Nat) (k : Int -> Bool) : sj182 N b k = k (cls b) := by
  unfold sj182 Gj182
  simp only [sj176, s_an_of, G_an_of, law_class]
theorem law_Abs (N : Nat) (b : Nat) (k : Fl -> Bool) : sj198 N b k = k (absF (some b)) := by
  unfold sj198 Gj198
  simp only [sj176, sj97, bitsN_andNot_top]
  rfl

end Go.Proofs.YtccocdgimamdhaaGreatDoor
