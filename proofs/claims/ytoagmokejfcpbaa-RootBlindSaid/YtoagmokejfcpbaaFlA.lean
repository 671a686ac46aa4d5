/-
  FLOATS, first part: what is written and read again; noughts; one.
  Conditions: none.
-/
import Derived.Test.YtoagmokejfcpbaaMachX
namespace Go.Mach
open Ieee

theorem leastPlace_d : Ieee.double.leastPlace = -1074 := by decide
theorem binade_d : Ieee.double.binade = 4503599627370496 := by decide
theorem signWeight_d : Ieee.double.signWeight = 9223372036854775808 := by decide
theorem infRung_d : Ieee.double.infRung = 9218868437227405312 := by decide

/-- a word of a format -/
abbrev W64 (b : Nat) : Prop := b < 18446744073709551616

theorem cut_zero (s : Bool) (n : Nat) : Toward.even.cut s n 0 = n := by
  simp [Toward.cut, Nat.mod_one]
theorem cut_double (s : Bool) (n d : Nat) (hn : 0 < n) : Toward.even.cut s (2 * n) (d + 1) = Toward.even.cut s n d := by
  have hl : (2 * n).log2 = n.log2 + 1 := Nat.log2_two_mul (by omega)
  unfold Toward.cut
  have hm : min (d + 1) ((2 * n).log2 + 2) = min d (n.log2 + 2) + 1 := by rw [hl]; omega
  rw [hm]
  generalize min d (n.log2 + 2) = g
  have hg : 1 <<< (g + 1) = 2 * (1 <<< g) := by rw [Nat.shiftLeft_eq, Nat.shiftLeft_eq, Nat.pow_succ]; omega
  have e1 : 2 * n / (1 <<< (g + 1)) = n / (1 <<< g) := by rw [hg]; exact Nat.mul_div_mul_left _ _ (by decide)
  have e2 : 2 * n % (1 <<< (g + 1)) = 2 * (n % (1 <<< g)) := by rw [hg]; exact Nat.mul_mod_mul_left _ _ _
  have e3 : ∀ q r : Nat, (decide (2 * (1 <<< g) < 2 * (2 * r)) || (2 * (1 <<< g) == 2 * (2 * r) && q % 2 == 1)) = (decide (1 <<< g < 2 * r) || (1 <<< g == 2 * r && q % 2 == 1)) := by
    intro q r
    rw [Bool.eq_iff_iff]
    simp only [Bool.or_eq_true, Bool.and_eq_true, decide_eq_true_eq, beq_iff_eq]
    omega
  show 2 * n / (1 <<< (g + 1)) + (decide (1 <<< (g + 1) < 2 * (2 * n % (1 <<< (g + 1)))) || (1 <<< (g + 1) == 2 * (2 * n % (1 <<< (g + 1))) && 2 * n / (1 <<< (g + 1)) % 2 == 1)).toNat = _
  rw [e1, e2, hg, e3]
/-- what is written hangs on the value alone -/
theorem nearest_double (s : Bool) (m : Nat) (i : Int) : Ieee.double.nearest s (2 * m) (i - 1) = Ieee.double.nearest s m i := by
  unfold Format.nearest
  by_cases hm : m = 0
  · simp [hm]
  · rw [if_neg (by omega), if_neg hm]
    have hl : (2 * m).log2 = m.log2 + 1 := Nat.log2_two_mul hm
    have hp : i - 1 + ((2 * m).log2 : Int) = i + (m.log2 : Int) := by rw [hl]; omega
    rw [hp]
    generalize hL : max (i + (m.log2 : Int) - Ieee.double.fractionBits) Ieee.double.leastPlace = L
    simp only
    have key : Toward.even.cut s ((2 * m) <<< (i - 1 - L).toNat) (L - (i - 1)).toNat = Toward.even.cut s (m <<< (i - L).toNat) (L - i).toNat := by
      by_cases h : i ≤ L
      · have e1 : (i - 1 - L).toNat = 0 := by omega
        have e2 : (i - L).toNat = 0 := by omega
        have e3 : (L - (i - 1)).toNat = (L - i).toNat + 1 := by omega
        rw [e1, e2, e3, Nat.shiftLeft_zero, Nat.shiftLeft_zero]
        exact cut_double s m _ (by omega)
      · have e1 : (L - (i - 1)).toNat = 0 := by omega
        have e2 : (L - i).toNat = 0 := by omega
        have e3 : (i - L).toNat = (i - 1 - L).toNat + 1 := by omega
        rw [e1, e2, e3, Nat.shiftLeft_eq, Nat.shiftLeft_eq, Nat.pow_succ]
        congr 1
        rw [Nat.mul_comm 2 m, Nat.mul_assoc, Nat.mul_comm 2]
    rw [key]
theorem nearest_shift (s : Bool) (m : Nat) (i : Int) : ∀ k : Nat, Ieee.double.nearest s (m <<< k) (i - k) = Ieee.double.nearest s m i
  | 0 => by simp
  | k + 1 => by
    have e1 : m <<< (k + 1) = 2 * (m <<< k) := by rw [Nat.shiftLeft_eq, Nat.shiftLeft_eq, Nat.pow_succ]; rw [Nat.mul_comm 2, Nat.mul_assoc]
    have e2 : i - ((k + 1 : Nat) : Int) = (i - (k : Int)) - 1 := by omega
    rw [e1, e2, nearest_double, nearest_shift s m i k]

theorem read_number {b : Nat} {s : Bool} {m : Nat} {i : Int} (h : Ieee.double.read b = .number s m i) :
    (s = (b / 9223372036854775808 % 2 == 1)) ∧ b % 9223372036854775808 < 9218868437227405312 ∧
    ((b % 9223372036854775808 < 4503599627370496 ∧ m = b % 9223372036854775808 ∧ i = -1074) ∨
     (4503599627370496 ≤ b % 9223372036854775808 ∧ m = 4503599627370496 + b % 9223372036854775808 % 4503599627370496 ∧ i = -1074 + ((b % 9223372036854775808 / 4503599627370496 - 1 : Nat) : Int))) := by
  unfold Format.read at h
  simp only [signWeight_d, binade_d, infRung_d, leastPlace_d] at h
  split at h
  · cases h
    exact ⟨rfl, by omega, .inl ⟨by assumption, rfl, rfl⟩⟩
  · split at h
    · cases h
      exact ⟨rfl, by omega, .inr ⟨by omega, rfl, rfl⟩⟩
    · split at h <;> cases h
theorem word_back {b : Nat} (hb : W64 b) : Ieee.double.word (b / 9223372036854775808 % 2 == 1) (b % 9223372036854775808) = b := by
  unfold Format.word
  rw [signWeight_d]
  by_cases h : b / 9223372036854775808 % 2 = 1
  · rw [h]; simp; omega
  · have : b / 9223372036854775808 % 2 = 0 := by omega
    rw [this]; simp; omega
/-- what was read is written again -/
theorem write_read {b : Nat} (hb : W64 b) {s : Bool} {m : Nat} {i : Int} (h : Ieee.double.read b = .number s m i) : Ieee.double.nearest s m i = b := by
  obtain ⟨rfl, hlt, h⟩ := read_number h
  unfold Format.nearest
  have hf : Ieee.double.fractionBits = 52 := rfl
  rw [leastPlace_d, binade_d, infRung_d, hf]
  rcases h with ⟨h1, rfl, rfl⟩ | ⟨h1, rfl, rfl⟩
  · by_cases h0 : b % 9223372036854775808 = 0
    · rw [if_pos h0]
      have := word_back hb
      rwa [h0] at this
    · rw [if_neg h0]
      have hlog : (b % 9223372036854775808).log2 < 52 := (Nat.log2_lt h0).2 (by simpa using h1)
      have hL : max ((-1074 : Int) + ((b % 9223372036854775808).log2 : Int) - (52 : Nat)) (-1074) = -1074 := by omega
      simp only [hL]
      have e0 : ((-1074 : Int) - -1074).toNat = 0 := by decide
      rw [e0, Nat.shiftLeft_zero, cut_zero, Nat.zero_mul, Nat.zero_add, Nat.min_eq_left (by omega)]
      exact word_back hb
  · generalize hr : b % 9223372036854775808 = r at *
    have hm : 4503599627370496 + r % 4503599627370496 ≠ 0 := by omega
    rw [if_neg hm]
    have hlog : (4503599627370496 + r % 4503599627370496).log2 = 52 := by
      rw [Nat.log2_eq_iff hm]; constructor <;> omega
    simp only [hlog]
    have hL : max ((-1074 : Int) + ((r / 4503599627370496 - 1 : Nat) : Int) + ((52 : Nat) : Int) - (52 : Nat)) (-1074) = -1074 + ((r / 4503599627370496 - 1 : Nat) : Int) := by omega
    rw [hL]
    have e0 : ((-1074 : Int) + ((r / 4503599627370496 - 1 : Nat) : Int) - (-1074 + ((r / 4503599627370496 - 1 : Nat) : Int))).toNat = 0 := by omega
    have e1 : ((-1074 : Int) + ((r / 4503599627370496 - 1 : Nat) : Int) - -1074).toNat = r / 4503599627370496 - 1 := by omega
    rw [e0, e1, Nat.shiftLeft_zero, cut_zero]
    have e2 : (r / 4503599627370496 - 1) * 4503599627370496 + (4503599627370496 + r % 4503599627370496) = r := by
      have := Nat.div_add_mod r 4503599627370496
      have h3 : 1 ≤ r / 4503599627370496 := by omega
      rw [Nat.sub_mul]; omega
    rw [e2, Nat.min_eq_left (by omega), ← hr]
    exact word_back hb

end Go.Mach
