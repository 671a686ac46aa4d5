/-
  FLOATS, second part: noughts and one, in sums, products, quotients.
  Conditions: none.
-/
import Derived.Test.YtoagmokejfcpbaaFlA
namespace Go.Mach
open Ieee

theorem write_number (s : Bool) (m : Nat) (i : Int) : Ieee.double.write (.number s m i) = Ieee.double.nearest s m i := rfl
theorem nearest_zero (s : Bool) (i : Int) : Ieee.double.nearest s 0 i = Ieee.double.word s 0 := by simp [Format.nearest]
theorem read_zero : Ieee.double.read 0 = .number false 0 (-1074) := by decide
theorem read_word0 (s : Bool) : Ieee.double.read (Ieee.double.word s 0) = .number s 0 (-1074) := by cases s <;> decide
theorem read_one : Ieee.double.read 4607182418800017408 = .number false 4503599627370496 (-52) := by decide
theorem place_ge {b : Nat} {s : Bool} {m : Nat} {i : Int} (h : Ieee.double.read b = .number s m i) : -1074 ≤ i := by
  obtain ⟨-, -, h⟩ := read_number h
  omega
theorem signed_zero (s : Bool) (k : Nat) : signed s 0 k = 0 := by cases s <;> simp [signed]
theorem sum_zero_right {s t : Bool} {m : Nat} {i : Int} (hi : -1074 ≤ i) (hm : m ≠ 0) : ((Datum.number s m i).sum (.number t 0 (-1074))).map Ieee.double.write = some (Ieee.double.nearest s m i) := by
  have hb : min i (-1074) = -1074 := by omega
  have hp : 0 < m <<< (i - -1074).toNat := by rw [Nat.shiftLeft_eq]; exact Nat.mul_pos (by omega) (Nat.two_pow_pos _)
  have e2 : i - ((i - -1074).toNat : Int) = -1074 := by omega
  have e3 := nearest_shift s m i (i - -1074).toNat
  rw [e2] at e3
  simp only [Datum.sum, hb, signed_zero, Int.add_zero, Option.map_some, write_number]
  rw [← e3]
  cases s
  · have h1 : signed false m (i - -1074).toNat = ((m <<< (i - -1074).toNat : Nat) : Int) := rfl
    rw [h1, if_neg (by omega), Int.natAbs_natCast]
    have h2 : decide (((m <<< (i - -1074).toNat : Nat) : Int) < 0) = false := decide_eq_false (by omega)
    rw [h2]
  · have h1 : signed true m (i - -1074).toNat = -((m <<< (i - -1074).toNat : Nat) : Int) := rfl
    rw [h1, if_neg (by omega), Int.natAbs_neg, Int.natAbs_natCast]
    have h2 : decide (-((m <<< (i - -1074).toNat : Nat) : Int) < 0) = true := decide_eq_true (by omega)
    rw [h2]
theorem sum_zeros (s t : Bool) : ((Datum.number s 0 (-1074)).sum (.number t 0 (-1074))).map Ieee.double.write = some (Ieee.double.word (s && t) 0) := by cases s <;> cases t <;> decide
theorem read_mag0 {b : Nat} {s : Bool} {i : Int} (h : Ieee.double.read b = .number s 0 i) : i = -1074 := by
  obtain ⟨-, -, h⟩ := read_number h
  omega
theorem add_zero_w {b : Nat} (hb : W64 b) {s t : Bool} {m : Nat} {i : Int} (h : Ieee.double.read b = .number s m i) (hm : m ≠ 0) : Ieee.double.add b (Ieee.double.word t 0) = some b := by
  unfold Format.add
  rw [h, read_word0, sum_zero_right (place_ge h) hm, write_read hb h]
theorem add_zeros_w (s t : Bool) : Ieee.double.add (Ieee.double.word s 0) (Ieee.double.word t 0) = some (Ieee.double.word (s && t) 0) := by
  unfold Format.add
  rw [read_word0, read_word0, sum_zeros]
theorem mag0_word {b : Nat} (hb : W64 b) {s : Bool} {i : Int} (h : Ieee.double.read b = .number s 0 i) : b = Ieee.double.word s 0 := by
  rw [← write_read hb h, nearest_zero]
theorem sub_zero_w {b : Nat} (hb : W64 b) {s : Bool} {m : Nat} {i : Int} (h : Ieee.double.read b = .number s m i) : Ieee.double.sub b 0 = some b := by
  unfold Format.sub
  rw [h, read_zero]
  show ((Datum.number s m i).sum (.number true 0 (-1074))).map Ieee.double.write = some b
  by_cases hm : m = 0
  · subst hm
    obtain rfl := read_mag0 h
    rw [sum_zeros, Bool.and_true, ← mag0_word hb h]
  · rw [sum_zero_right (place_ge h) hm, write_read hb h]
theorem mul_zero_w {b : Nat} {s t : Bool} {m : Nat} {i : Int} (h : Ieee.double.read b = .number s m i) : Ieee.double.mul b (Ieee.double.word t 0) = some (Ieee.double.word (s ^^ t) 0) := by
  unfold Format.mul
  rw [h, read_word0]
  simp only [Datum.product, Nat.mul_zero, Option.map_some, write_number, nearest_zero]
theorem zero_mul_w {b : Nat} {s t : Bool} {m : Nat} {i : Int} (h : Ieee.double.read b = .number s m i) : Ieee.double.mul (Ieee.double.word t 0) b = some (Ieee.double.word (t ^^ s) 0) := by
  unfold Format.mul
  rw [h, read_word0]
  simp only [Datum.product, Nat.zero_mul, Option.map_some, write_number, nearest_zero]
theorem one_mul_w {b : Nat} (hb : W64 b) {s : Bool} {m : Nat} {i : Int} (h : Ieee.double.read b = .number s m i) : Ieee.double.mul 4607182418800017408 b = some b := by
  unfold Format.mul
  rw [h, read_one]
  simp only [Datum.product, Option.map_some, write_number, Bool.false_xor]
  have e1 : 4503599627370496 * m = m <<< 52 := by rw [Nat.shiftLeft_eq, Nat.mul_comm]
  have e2 : (-52 : Int) + i = i - ((52 : Nat) : Int) := by omega
  rw [e1, e2, nearest_shift, write_read hb h]
theorem div_self_w {p : Nat} {s : Bool} {n : Nat} {j : Int} (h : Ieee.double.read p = .number s n j) (hn : n ≠ 0) : Ieee.double.div p p = some 4607182418800017408 := by
  unfold Format.div
  rw [h]
  have hf : Ieee.double.fractionBits = 52 := rfl
  simp only [Datum.quotient, if_neg hn, hf, Bool.xor_self, Option.map_some, write_number]
  have e0 : 52 + 2 + n.log2 - n.log2 = 54 := by omega
  have e1 : n <<< 54 / n = 2 ^ 54 := by rw [Nat.shiftLeft_eq]; exact Nat.mul_div_cancel_left _ (by omega)
  have e2 : n <<< 54 % n = 0 := by rw [Nat.shiftLeft_eq]; exact Nat.mul_mod_right _ _
  rw [e0, e1, e2]
  have e3 : j - j - ((54 : Nat) : Int) - 1 = -55 := by omega
  rw [e3]
  decide
theorem zero_div_w {p : Nat} {s : Bool} {n : Nat} {j : Int} (h : Ieee.double.read p = .number s n j) (hn : n ≠ 0) : Ieee.double.div 0 p = some (Ieee.double.word s 0) := by
  unfold Format.div
  rw [h, read_zero]
  simp only [Datum.quotient, if_neg hn, Nat.zero_shiftLeft, Nat.zero_div, Nat.zero_mod, Option.map_some, write_number, Bool.false_xor]
  have : (2 * 0 + ((0 : Nat) != 0).toNat) = 0 := by decide
  rw [this, nearest_zero]
theorem word_sign_read {s : Bool} {r : Nat} (hr : r < 9223372036854775808) {s' : Bool} {m : Nat} {i : Int} (h : Ieee.double.read (Ieee.double.word s r) = .number s' m i) : s' = s := by
  obtain ⟨h1, -⟩ := read_number h
  rw [h1]
  unfold Format.word
  rw [signWeight_d]
  cases s
  · simp; omega
  · have : (9223372036854775808 + r) / 9223372036854775808 = 1 := by omega
    simp [this]
theorem nearest_sign {s : Bool} {m : Nat} {i : Int} {s' : Bool} {m' : Nat} {i' : Int} (h : Ieee.double.read (Ieee.double.nearest s m i) = .number s' m' i') : s' = s := by
  unfold Format.nearest at h
  split at h
  · exact word_sign_read (by decide) h
  · simp only at h
    refine word_sign_read ?_ h
    rw [infRung_d]; omega
theorem mul_self_sign {p r : Nat} {s : Bool} {n : Nat} {j : Int} (h : Ieee.double.read p = .number s n j) (hr : Ieee.double.mul p p = some r) {s' : Bool} {m : Nat} {i : Int} (h' : Ieee.double.read r = .number s' m i) : s' = false := by
  unfold Format.mul at hr
  rw [h] at hr
  simp only [Datum.product, Option.map_some, Option.some.injEq, write_number, Bool.xor_self] at hr
  subst hr
  exact nearest_sign h'

end Go.Mach
