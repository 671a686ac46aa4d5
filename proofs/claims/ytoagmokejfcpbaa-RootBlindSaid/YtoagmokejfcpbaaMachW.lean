/-
  THE MACHINE, twenty-third part: floats: what is finite; bits.
  Conditions: none.
-/
import Derived.Test.YtoagmokejfcpbaaMachV
namespace Go.Mach
open Ieee

def isNum : Datum → Bool
  | .number .. => true
  | _ => false
/-- is it a number (no infinity, no NaN)? -/
def finF : Fl → Bool
  | some b => isNum (Ieee.double.read b)
  | none => false

theorem feq_zero_zero : feq (some 0) (some 0) = true := by decide
theorem sum_opposite (d : Datum) : d.sum d.opposite = if isNum d then some (.number false 0 (match d with | .number _ _ i => i | _ => 0)) else none := by
  cases d with
  | number s m i => cases s <;> simp [Datum.opposite, Datum.sum, isNum, signed, Int.add_comm, Int.add_left_neg, Int.add_right_neg]
  | infinity s => cases s <;> simp [Datum.opposite, Datum.sum, isNum]
  | nan s t => simp [Datum.opposite, Datum.sum, isNum]
theorem write_zero (i : Int) : Ieee.double.write (.number false 0 i) = 0 := by simp [Format.write, Format.nearest, Format.word]
theorem fin_eq (x : Fl) : feq (fsub x x) (some 0) = finF x := by
  cases x with
  | none => rfl
  | some b =>
    simp only [fsub, fbin, finF, Format.sub, sum_opposite]
    cases h : isNum (Ieee.double.read b) with
    | true => simp only [if_true, Option.map_some, write_zero]; exact feq_zero_zero
    | false => simp [feq, ford]

/-- what kind of number bits are: 1 NaN, 2 infinite, 3 nought, 4 below the normal ones, 5 normal -/
def cls (b : Nat) : Int :=
  if isNaN b then 1 else if b / 4503599627370496 % 2048 = 2047 then 2 else if b / 4503599627370496 % 2048 = 0 then (if b % 4503599627370496 = 0 then 3 else 4) else 5
theorem cls_fin (b : Nat) : (decide (cls b = 1) || decide (cls b = 2)) = !isNum (Ieee.double.read b) := by
  have e1 : Ieee.double.signWeight = 9223372036854775808 := by decide
  have e2 : Ieee.double.binade = 4503599627370496 := by decide
  have e3 : Ieee.double.infRung = 9218868437227405312 := by decide
  have hn := isNaN_iff b
  unfold cls Format.read
  simp only [e1, e2, e3]
  by_cases h : isNaN b = true
  · have h' := hn.1 h
    have a1 : ¬ (b % 9223372036854775808 < 4503599627370496) := by omega
    have a2 : ¬ (b % 9223372036854775808 < 9218868437227405312) := by omega
    have a3 : ¬ (b % 9223372036854775808 = 9218868437227405312) := by omega
    simp [h, a1, a2, a3, isNum]
  · have h' : ¬ (9218868437227405312 < b % 9223372036854775808) := fun q => h (hn.2 q)
    simp only [h, if_false, Bool.false_eq_true]
    by_cases a3 : b % 9223372036854775808 = 9218868437227405312
    · have c1 : b / 4503599627370496 % 2048 = 2047 := by omega
      simp [c1, a3, isNum]
    · have c1 : ¬ (b / 4503599627370496 % 2048 = 2047) := by omega
      by_cases a1 : b % 9223372036854775808 < 4503599627370496
      · simp only [c1, a1, if_true, if_false, isNum]; split <;> (try split) <;> simp
      · have a2 : b % 9223372036854775808 < 9218868437227405312 := by omega
        simp only [c1, a1, a2, if_true, if_false, isNum]; split <;> (try split) <;> simp

theorem wrap_u64 (n : Nat) (h : n < 18446744073709551616) : IntKind.wrap .u64 (n : Int) = n := by
  have : IntKind.wrap .u64 (n : Int) = (n : Int) % 18446744073709551616 := by rfl
  rw [this]; omega
theorem bitsN_and_mask (a k : Nat) (hk : k ≤ 64) : bitsN .and .u64 (a : Int) ((2 ^ k - 1 : Nat) : Int) = ((a % 2 ^ k : Nat) : Int) := by
  unfold bitsN bitsI
  simp only [Option.getD_some]
  have e : ((BitVec.ofInt (IntKind.bits .u64) (a : Int)) &&& (BitVec.ofInt (IntKind.bits .u64) ((2 ^ k - 1 : Nat) : Int))).toNat = a % 2 ^ k := by
    show ((BitVec.ofInt 64 (a : Int)) &&& (BitVec.ofInt 64 ((2 ^ k - 1 : Nat) : Int))).toNat = a % 2 ^ k
    rw [BitVec.toNat_and, BitVec.ofInt_natCast, BitVec.ofInt_natCast, BitVec.toNat_ofNat, BitVec.toNat_ofNat]
    have h1 : 2 ^ k ≤ 2 ^ 64 := Nat.pow_le_pow_right (by decide) hk
    have h0 : 0 < 2 ^ k := Nat.two_pow_pos k
    rw [Nat.mod_eq_of_lt (a := 2 ^ k - 1) (by omega), Nat.and_two_pow_sub_one_eq_mod, Nat.mod_mod_of_dvd]
    exact Nat.pow_dvd_pow 2 hk
  rw [e, wrap_u64]
  have h1 : 2 ^ k ≤ 2 ^ 64 := Nat.pow_le_pow_right (by decide) hk
  have : a % 2 ^ k < 2 ^ k := Nat.mod_lt _ (Nat.two_pow_pos k)
  have : (2 : Nat) ^ 64 = 18446744073709551616 := by decide
  omega
theorem bitsN_andNot_top (a : Nat) : bitsN .andNot .u64 (a : Int) 9223372036854775808 = ((a % 9223372036854775808 : Nat) : Int) := by
  unfold bitsN bitsI
  simp only [Option.getD_some]
  have e : ((BitVec.ofInt (IntKind.bits .u64) (a : Int)) &&& ~~~(BitVec.ofInt (IntKind.bits .u64) (9223372036854775808 : Int))).toNat = a % 9223372036854775808 := by
    have hm : ~~~(BitVec.ofInt 64 (9223372036854775808 : Int)) = BitVec.ofNat 64 (2 ^ 63 - 1) := by decide
    show ((BitVec.ofInt 64 (a : Int)) &&& ~~~(BitVec.ofInt 64 (9223372036854775808 : Int))).toNat = a % 9223372036854775808
    rw [hm, BitVec.toNat_and, BitVec.ofInt_natCast, BitVec.toNat_ofNat, BitVec.toNat_ofNat, Nat.mod_eq_of_lt (a := 2 ^ 63 - 1) (by decide), Nat.and_two_pow_sub_one_eq_mod, Nat.mod_mod_of_dvd]
    exact Nat.pow_dvd_pow 2 (by decide)
  rw [e, wrap_u64]
  omega

end Go.Mach
