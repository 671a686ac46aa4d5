/-
  FLOATS, first part: what is written and read again; noughts; one.
  Conditions: none.
-/
import Derived.Test.YtjpaijnmiaoopaaGreatDoorMachT
section
namespace Go.Mach
open Ieee
theorem leastPlace_d : Ieee.double.leastPlace = -1074 := by decide
theorem binade_d : Ieee.double.binade = 4503599627370496 := by decide
theorem signWeight_d : Ieee.double.signWeight = 9223372036854775808 := by decide
theorem infRung_d : Ieee.double.infRung = 9218868437227405312 := by decide
abbrev W64 (b : Nat) : Prop := b < 18446744073709551616
theorem cut_zero (s : Bool) (n : Nat) : Toward.even.cut s n 0 = n := by
 simp [Toward.cut, Nat.mod_one]
theorem cut_double (s : Bool) (n d : Nat) (hn : 0 < n) : Toward.even.cut s (2 * n) (d + 1) = Toward.even.cut s n d := by
 have hl : (2 * n).log2 = n.log2 + 1 := Nat.log2_two_mul (by omega)
 unfold Toward.cut
 have hm : min (d + 1) ((2 * n).log2 + 2) = min d (n.log2 + 2) + 1 := by rw [hl]; omega
 rw [hm]
 generalize min d (n.log2 + 2) = g
 have hg : 1 <<< (g + 1) = 2 * (1 <<< g) := by rw [Nat.shiftLeft_eq, Nat.shiftLeft_eq, Nat.pow_succ]; omega
 have e1 : 2 * n / (1 <<< (g + 1)) = n / (1 <<< g) := by rw [hg]; exact Nat.mul_div_mul_left _ _ (by decide)
 have e2 : 2 * n % (1 <<< (g + 1)) = 2 * (n % (1 <<< g)) := by rw [hg]; exact Nat.mul_mod_mul_left _ _ _
 have e3 : ∀ q r : Nat, (decide (2 * (1 <<< g) < 2 * (2 * r)) || (2 * (1 <<< g) == 2 * (2 * r) && q % 2 == 1)) = (decide (1 <<< g < 2 * r) || (1 <<< g == 2 * r && q % 2 == 1)) := by
  intro q r
  rw [Bool.eq_iff_iff]
  simp only [Bool.or_eq_true, Bool.and_eq_true, decide_eq_true_eq, beq_iff_eq]
  omega
 show 2 * n / (1 <<< (g + 1)) + (decide (1 <<< (g + 1) < 2 * (2 * n % (1 <<< (g + 1)))) || (1 <<< (g + 1) == 2 * (2 * n % (1 <<< (g + 1))) && 2 * n / (1 <<< (g + 1)) % 2 == 1)).toNat = _
 rw [e1, e2, hg, e3]
theorem nearest_double (s : Bool) (m : Nat) (i : Int) : Ieee.double.nearest s (2 * m) (i - 1) = Ieee.double.nearest s m i := by
 unfold Format.nearest
 by_cases hm : m = 0
 ·simp [hm]
 ·rw [if_neg (by omega), if_neg hm]
  have hl : (2 * m).log2 = m.log2 + 1 := Nat.log2_two_mul hm
  have hp : i - 1 + ((2 * m).log2 : Int) = i + (m.log2 : Int) := by rw [hl]; omega
  rw [hp]
  generalize hL : max (i + (m.log2 : Int) - Ieee.double.fractionBits) Ieee.double.leastPlace = L
  simp only
  have key : Toward.even.cut s ((2 * m) <<< (i - 1 - L).toNat) (L - (i - 1)).toNat = Toward.even.cut s (m <<< (i - L).toNat) (L - i).toNat := by
   by_cases h : i <= L
   ·have e1 : (i - 1 - L).toNat = 0 := by omega
    have e2 : (i - L).toNat = 0 := by omega
    have e3 : (L - (i - 1)).toNat = (L - i).toNat + 1 := by omega
    rw [e1, e2, e3, Nat.shiftLeft_zero, Nat.shiftLeft_zero]
    exact cut_double s m _ (by omega)
   ·have e1 : (L - (i - 1)).toNat = 0 := by omega
    have e2 : (L - i).toNat = 0 := by omega
    have e3 : (i - L).toNat = (i - 1 - L).toNat + 1 := by omega
    rw [e1, e2, e3, Nat.shiftLeft_eq, Nat.shiftLeft_eq, Nat.pow_succ]
    congr 1
    rw [Nat.mul_comm 2 m, Nat.mul_assoc, Nat.mul_comm 2]
  rw [key]
theorem nearest_shift (s : Bool) (m : Nat) (i : Int) : ∀ k : Nat, Ieee.double.nearest s (m <<< k) (i - k) = Ieee.double.nearest s m i
 | 0 => by simp
 | k + 1 => by
  have e1 : m <<< (k + 1) = 2 * (m <<< k) := by rw [Nat.shiftLeft_eq, Nat.shiftLeft_eq, Nat.pow_succ]; rw [Nat.mul_comm 2, Nat.mul_assoc]
  have e2 : i - ((k + 1 : Nat) : Int) = (i - (k : Int)) - 1 := by omega
  rw [e1, e2, nearest_double, nearest_shift s m i k]
theorem read_number {b : Nat} {s : Bool} {m : Nat} {i : Int} (h : Ieee.double.read b = .number s m i) :
    (s = (b / 9223372036854775808 % 2 == 1)) /\ b % 9223372036854775808 < 9218868437227405312 /\
    ((b % 9223372036854775808 < 4503599627370496 /\ m = b % 9223372036854775808 /\ i = -1074) \/
     (4503599627370496 <= b % 9223372036854775808 /\ m = 4503599627370496 + b % 9223372036854775808 % 4503599627370496 /\ i = -1074 + ((b % 9223372036854775808 / 4503599627370496 - 1 : Nat) : Int))) := by
  unfold Format.read at h
  simp only [signWeight_d, binade_d, infRung_d, leastPlace_d] at h
  split at h
  · cases h
    exact ⟨rfl, by omega, .inl ⟨by assumption, rfl, rfl⟩⟩
  · split at h
    · cases h
      exact ⟨rfl, by omega, .inr ⟨by omega, rfl, rfl⟩⟩
    · split at h <;> cases h
theorem word_back {b : Nat} (hb : W64 b) : Ieee.double.word (b / 9223372036854775808 % 2 == 1) (b % 9223372036854775808) = b := by
 unfold Format.word
 rw [signWeight_d]
 by_cases h : b / 9223372036854775808 % 2 = 1
 ·rw [h]; simp; omega
 ·have : b / 9223372036854775808 % 2 = 0 := by omega
  rw [this]; simp; omega
theorem write_read {b : Nat} (hb : W64 b) {s : Bool} {m : Nat} {i : Int} (h : Ieee.double.read b = .number s m i) : Ieee.double.nearest s m i = b := by
 obtain ⟨rfl, hlt, h⟩ := read_number h
 unfold Format.nearest
 have hf : Ieee.double.fractionBits = 52 := rfl
 rw [leastPlace_d, binade_d, infRung_d, hf]
 rcases h with ⟨h1, rfl, rfl⟩ | ⟨h1, rfl, rfl⟩
 ·by_cases h0 : b % 9223372036854775808 = 0
  ·rw [if_pos h0]
   have := word_back hb
   rwa [h0] at this
  ·rw [if_neg h0]
   have hlog : (b % 9223372036854775808).log2 < 52 := (Nat.log2_lt h0).2 (by simpa using h1)
   have hL : max ((-1074 : Int) + ((b % 9223372036854775808).log2 : Int) - (52 : Nat)) (-1074) = -1074 := by omega
   simp only [hL]
   have e0 : ((-1074 : Int) - -1074).toNat = 0 := by decide
   rw [e0, Nat.shiftLeft_zero, cut_zero, Nat.zero_mul, Nat.zero_add, Nat.min_eq_left (by omega)]
   exact word_back hb
 ·generalize hr : b % 9223372036854775808 = r at *
  have hm : 4503599627370496 + r % 4503599627370496 ≠ 0 := by omega
  rw [if_neg hm]
  have hlog : (4503599627370496 + r % 4503599627370496).log2 = 52 := by
   rw [Nat.log2_eq_iff hm]; constructor <;> omega
  simp only [hlog]
  have hL : max ((-1074 : Int) + ((r / 4503599627370496 - 1 : Nat) : Int) + ((52 : Nat) : Int) - (52 : Nat)) (-1074) = -1074 + ((r / 4503599627370496 - 1 : Nat) : Int) := by omega
  rw [hL]
  have e0 : ((-1074 : Int) + ((r / 4503599627370496 - 1 : Nat) : Int) - (-1074 + ((r / 4503599627370496 - 1 : Nat) : Int))).toNat = 0 := by omega
  have e1 : ((-1074 : Int) + ((r / 4503599627370496 - 1 : Nat) : Int) - -1074).toNat = r / 4503599627370496 - 1 := by omega
  rw [e0, e1, Nat.shiftLeft_zero, cut_zero]
  have e2 : (r / 4503599627370496 - 1) * 4503599627370496 + (4503599627370496 + r % 4503599627370496) = r := by
   have := Nat.div_add_mod r 4503599627370496
   have h3 : 1 <= r / 4503599627370496 := by omega
   rw [Nat.sub_mul]; omega
  rw [e2, Nat.min_eq_left (by omega), <- hr]
  exact word_back hb
end Go.Mach
end
section
namespace Go.Mach
open Ieee
theorem write_number (s : Bool) (m : Nat) (i : Int) : Ieee.double.write (.number s m i) = Ieee.double.nearest s m i := rfl
theorem nearest_zero (s : Bool) (i : Int) : Ieee.double.nearest s 0 i = Ieee.double.word s 0 := by simp [Format.nearest]
theorem read_zero : Ieee.double.read 0 = .number false 0 (-1074) := by decide
theorem read_word0 (s : Bool) : Ieee.double.read (Ieee.double.word s 0) = .number s 0 (-1074) := by cases s <;> decide
theorem read_one : Ieee.double.read 4607182418800017408 = .number false 4503599627370496 (-52) := by decide
theorem place_ge {b : Nat} {s : Bool} {m : Nat} {i : Int} (h : Ieee.double.read b = .number s m i) : -1074 <= i := by
 obtain ⟨-, -, h⟩ := read_number h
 omega
theorem signed_zero (s : Bool) (k : Nat) : signed s 0 k = 0 := by cases s <;> simp [signed]
theorem mag0_word {b : Nat} (hb : W64 b) {s : Bool} {i : Int} (h : Ieee.double.read b = .number s 0 i) : b = Ieee.double.word s 0 := by
 rw [<- write_read hb h, nearest_zero]
theorem one_mul_w {b : Nat} (hb : W64 b) {s : Bool} {m : Nat} {i : Int} (h : Ieee.double.read b = .number s m i) : Ieee.double.mul 4607182418800017408 b = some b := by
 unfold Format.mul
 rw [h, read_one]
 simp only [Datum.product, Option.map_some, write_number, Bool.false_xor]
 have e1 : 4503599627370496 * m = m <<< 52 := by rw [Nat.shiftLeft_eq, Nat.mul_comm]
 have e2 : (-52 : Int) + i = i - ((52 : Nat) : Int) := by omega
 rw [e1, e2, nearest_shift, write_read hb h]
end Go.Mach
end
section
namespace Go.Mach
open Ieee
def FW (x : Fl) : Prop := ∀ b, x = some b -> W64 b
theorem finF_num {x : Fl} (h : finF x = true) : ∃ b s m i, x = some b /\ Ieee.double.read b = .number s m i := by
 cases x with
 | none => cases h
 | some b =>
  simp only [finF] at h
  cases e : Ieee.double.read b with
  | number s m i => exact ⟨b, s, m, i, rfl, e⟩
  | infinity s => rw [e] at h; cases h
  | nan s t => rw [e] at h; cases h
theorem finF_of {b : Nat} {s : Bool} {m : Nat} {i : Int} (h : Ieee.double.read b = .number s m i) : finF (some b) = true := by simp [finF, h, isNum]
theorem one_fmul {x : Fl} (hw : FW x) (h : finF x = true) : fmul (some 4607182418800017408) x = x := by
 obtain ⟨b, s, m, i, rfl, hb⟩ := finF_num h
 exact one_mul_w (hw b rfl) hb
theorem feq_refl {x : Fl} (h : finF x = true) : feq x x = true := by
 obtain ⟨b, s, m, i, rfl, hb⟩ := finF_num h
 simp only [feq, ford, Format.order, hb, Datum.order]
 simp [compare, compareOfLessAndEq]
theorem canon_FW {n : Nat} (h : W64 n) : FW (canon n) := by
 intro b hb
 unfold canon at hb
 cases hn : isNaN n with
 | true => rw [hn] at hb; cases hb
 | false => rw [hn] at hb; cases hb; exact h
end Go.Mach
end
section
namespace Go.Mach
open Ieee
theorem place_le {b : Nat} {s : Bool} {m : Nat} {i : Int} (h : Ieee.double.read b = .number s m i) : i <= 971 /\ m < 9007199254740992 := by
 obtain ⟨-, h1, h⟩ := read_number h
 rcases h with ⟨h2, rfl, rfl⟩ | ⟨h2, rfl, rfl⟩
 ·exact ⟨by omega, by omega⟩
 ·refine ⟨by omega, by omega⟩
theorem read_normal (s : Bool) (M : Nat) (P : Int) (hM : 4503599627370496 <= M /\ M < 9007199254740992) (hP : -1074 <= P /\ P <= 971) :
  Ieee.double.read (Ieee.double.word s ((P + 1075).toNat * 4503599627370496 + (M - 4503599627370496))) = .number s M P := by
 have hE : 1 <= (P + 1075).toNat /\ (P + 1075).toNat <= 2046 := by omega
 generalize hEe : (P + 1075).toNat = E at hE ⊢
 have hr : E * 4503599627370496 + (M - 4503599627370496) < 9218868437227405312 := by omega
 unfold Format.read
 simp only [signWeight_d, binade_d, infRung_d, leastPlace_d]
 have hw : Ieee.double.word s (E * 4503599627370496 + (M - 4503599627370496)) % 9223372036854775808 = E * 4503599627370496 + (M - 4503599627370496) := by
  unfold Format.word; rw [signWeight_d]; cases s <;> simp <;> omega
 have hs : (Ieee.double.word s (E * 4503599627370496 + (M - 4503599627370496)) / 9223372036854775808 % 2 == 1) = s := by
  unfold Format.word; rw [signWeight_d]
  cases s
  ·simp; omega
  ·have : (9223372036854775808 + (E * 4503599627370496 + (M - 4503599627370496))) / 9223372036854775808 = 1 := by omega
   simp [this]
 rw [hw, hs, if_neg (by omega), if_pos hr]
 have e1 : 4503599627370496 + (E * 4503599627370496 + (M - 4503599627370496)) % 4503599627370496 = M := by omega
 have e2 : (-1074 : Int) + (((E * 4503599627370496 + (M - 4503599627370496)) / 4503599627370496 - 1 : Nat) : Int) = P := by omega
 rw [e1, e2]
theorem word_W64 (s : Bool) {r : Nat} (h : r < 9223372036854775808) : W64 (Ieee.double.word s r) := by
 unfold W64 Format.word; rw [signWeight_d]; cases s <;> simp <;> omega
theorem lift52 {m : Nat} (h0 : m ≠ 0) (h : m < 9007199254740992) : 4503599627370496 <= m <<< (52 - m.log2) /\ m <<< (52 - m.log2) < 9007199254740992 := by
 have h1 := Nat.log2_self_le h0
 have h2 : m < 2 ^ (m.log2 + 1) := Nat.lt_log2_self
 have h3 : m.log2 <= 52 := by
  have := (Nat.log2_lt h0).2 (by simpa using h : m < 2 ^ 53)
  omega
 rw [Nat.shiftLeft_eq]
 have e1 : 2 ^ m.log2 * 2 ^ (52 - m.log2) = 4503599627370496 := by rw [<- Nat.pow_add, show m.log2 + (52 - m.log2) = 52 by omega]
 have e2 : 2 ^ (m.log2 + 1) * 2 ^ (52 - m.log2) = 9007199254740992 := by rw [<- Nat.pow_add, show m.log2 + 1 + (52 - m.log2) = 53 by omega]
 exact ⟨by rw [<- e1]; exact Nat.mul_le_mul_right _ h1, by rw [<- e2]; exact Nat.mul_lt_mul_of_pos_right h2 (Nat.two_pow_pos _)⟩
theorem nearest_lift (s : Bool) (m : Nat) (i : Int) : Ieee.double.nearest s (m <<< (52 - m.log2)) (i - ((52 - m.log2 : Nat) : Int)) = Ieee.double.nearest s m i := nearest_shift s m i _
theorem log2_normal {M : Nat} (hM : 4503599627370496 <= M /\ M < 9007199254740992) : M.log2 = 52 := by
 rw [Nat.log2_eq_iff (by omega)]; constructor <;> omega
theorem nearest_tiny (s : Bool) {M : Nat} (hM : 4503599627370496 <= M /\ M < 9007199254740992) {q : Int} (h : q < -1127) : Ieee.double.nearest s M q = Ieee.double.word s 0 := by
 unfold Format.nearest
 rw [if_neg (by omega), leastPlace_d, binade_d, infRung_d, log2_normal hM]
 have hf : Ieee.double.fractionBits = 52 := rfl
 rw [hf]
 have hL : max (q + ((52 : Nat) : Int) - ((52 : Nat) : Int)) (-1074) = -1074 := by omega
 simp only [hL]
 have e1 : (q - -1074).toNat = 0 := by omega
 have e2 : ((-1074 : Int) - -1074).toNat = 0 := by decide
 rw [e1, e2, Nat.shiftLeft_zero]
 have hd : 54 <= (-1074 - q).toNat := by omega
 unfold Toward.cut
 have hmn : min (-1074 - q).toNat (M.log2 + 2) = 54 := by rw [log2_normal hM]; omega
 rw [hmn]
 have hg : 1 <<< 54 = 18014398509481984 := by decide
 rw [hg]
 dsimp only
 rw [Nat.div_eq_of_lt (by omega), Nat.mod_eq_of_lt (by omega)]
 have hm : (decide (18014398509481984 < 2 * M) || (18014398509481984 == 2 * M && 0 % 2 == 1)) = false := by
  rw [decide_eq_false (by omega)]; simp
 rw [hm]
 simp
theorem nearest_huge (s : Bool) {M : Nat} (hM : 4503599627370496 <= M /\ M < 9007199254740992) {q : Int} (h : 971 < q) : Ieee.double.nearest s M q = Ieee.double.word s 9218868437227405312 := by
 unfold Format.nearest
 rw [if_neg (by omega), leastPlace_d, binade_d, infRung_d, log2_normal hM]
 have hf : Ieee.double.fractionBits = 52 := rfl
 rw [hf]
 have hL : max (q + ((52 : Nat) : Int) - ((52 : Nat) : Int)) (-1074) = q := by omega
 simp only [hL]
 have e1 : (q - q).toNat = 0 := by omega
 rw [e1, Nat.shiftLeft_zero, cut_zero, Nat.min_eq_right (by omega)]
theorem andNot_mid {b : Nat} (hb : W64 b) : bitsN .andNot .u64 (b : Int) 9218868437227405312 = ((b / 9223372036854775808 * 9223372036854775808 + b % 4503599627370496 : Nat) : Int) := by
 unfold bitsN bitsI
 simp only [Option.getD_some]
 unfold W64 at hb
 have e : ((BitVec.ofInt (IntKind.bits .u64) (b : Int)) &&& ~~~(BitVec.ofInt (IntKind.bits .u64) (9218868437227405312 : Int))).toNat = b / 9223372036854775808 * 9223372036854775808 + b % 4503599627370496 := by
  show ((BitVec.ofInt 64 (b : Int)) &&& ~~~(BitVec.ofInt 64 (9218868437227405312 : Int))).toNat = _
  have hm : ~~~(BitVec.ofInt 64 (9218868437227405312 : Int)) = BitVec.ofNat 64 (9223372036854775808 + 4503599627370495) := by decide
  have h64 : (2 : Nat) ^ 64 = 18446744073709551616 := by decide
  rw [hm, BitVec.toNat_and, BitVec.ofInt_natCast, BitVec.toNat_ofNat, BitVec.toNat_ofNat, Nat.mod_eq_of_lt (by omega), Nat.mod_eq_of_lt (by omega)]
  have e1 : b = 2 ^ 63 * (b / 9223372036854775808) + b % 9223372036854775808 := by
   have : (2 : Nat) ^ 63 = 9223372036854775808 := by decide
   rw [this]; omega
  have e2 : 9223372036854775808 + 4503599627370495 = 2 ^ 63 * 1 + 4503599627370495 := by decide
  have p63 : (2 : Nat) ^ 63 = 9223372036854775808 := by decide
  have e3 : b / 9223372036854775808 * 9223372036854775808 + b % 4503599627370496 = 2 ^ 63 * (b / 9223372036854775808) + b % 4503599627370496 := by rw [p63]; omega
  have e4 : b % 9223372036854775808 % 4503599627370496 = b % 4503599627370496 := by omega
  have e5 : b % 9223372036854775808 &&& 4503599627370495 = b % 4503599627370496 := by
   have := Nat.and_two_pow_sub_one_eq_mod (b % 9223372036854775808) 52
   have p52 : (2 : Nat) ^ 52 = 4503599627370496 := by decide
   rw [p52] at this
   rw [this, e4]
  have e6 : b / 9223372036854775808 &&& 1 = b / 9223372036854775808 := by
   have := Nat.and_one_is_mod (b / 9223372036854775808)
   rw [this]; omega
  apply Nat.eq_of_testBit_eq
  intro j
  rw [e3, e2]
  conv => lhs; rw [e1]
  have l1 : b % 9223372036854775808 < 2 ^ 63 := by rw [p63]; omega
  have l2 : 4503599627370495 < 2 ^ 63 := by decide
  have l3 : b % 4503599627370496 < 2 ^ 63 := by rw [p63]; omega
  rw [Nat.testBit_and, Nat.testBit_two_pow_mul_add _ l1, Nat.testBit_two_pow_mul_add _ l2, Nat.testBit_two_pow_mul_add _ l3]
  by_cases hj : j < 63
  ·simp only [if_pos hj]
   rw [<- Nat.testBit_and, e5]
  ·simp only [if_neg hj]
   rw [<- Nat.testBit_and, e6]
 rw [e, wrap_u64]
 omega
end Go.Mach
end
section
namespace Go.Proofs.YtjpaijnmiaoopaaGreatDoor
open Go Go.Mach Ieee
set_option linter.unusedVariables false
theorem cut_ge (s : Bool) (n d : Nat) (hd : d <= n.log2 + 2) : n / (1 <<< d) <= Toward.even.cut s n d := by
 unfold Toward.cut
 rw [Nat.min_eq_left hd]
 exact Nat.le_add_right _ _
theorem cut_le (s : Bool) (n d : Nat) (hn : n ≠ 0) : Toward.even.cut s n d <= 2 ^ (n.log2 + 1 - d) := by
 have hb : ∀ b : Bool, b.toNat <= 1 := by decide
 unfold Toward.cut
 dsimp only
 have h2 : n < 2 ^ (n.log2 + 1) := Nat.lt_log2_self
 by_cases h : d <= n.log2 + 1
 ·rw [Nat.min_eq_left (by omega), Nat.shiftLeft_eq, Nat.one_mul]
  have e : 2 ^ (n.log2 + 1) = 2 ^ d * 2 ^ (n.log2 + 1 - d) := by rw [<- Nat.pow_add, show d + (n.log2 + 1 - d) = n.log2 + 1 by omega]
  have h3 : n / 2 ^ d < 2 ^ (n.log2 + 1 - d) := by
   rw [Nat.div_lt_iff_lt_mul (Nat.two_pow_pos _), Nat.mul_comm, <- e]; exact h2
  generalize 2 ^ (n.log2 + 1 - d) = q at *
  refine Nat.le_trans (Nat.add_le_add_left (hb _) _) h3
 ·rw [show n.log2 + 1 - d = 0 by omega, Nat.min_eq_right (by omega), Nat.shiftLeft_eq, Nat.one_mul]
  have h3 : n / 2 ^ (n.log2 + 2) = 0 := Nat.div_eq_of_lt (Nat.lt_trans h2 (Nat.pow_lt_pow_right (by decide) (by omega)))
  rw [h3, Nat.zero_add]; exact hb _
theorem log2_shl {m : Nat} (h0 : m ≠ 0) (k : Nat) : (m <<< k).log2 = m.log2 + k := by
 have h1 := Nat.log2_self_le h0
 have h2 : m < 2 ^ (m.log2 + 1) := Nat.lt_log2_self
 rw [Nat.shiftLeft_eq, Nat.log2_eq_iff (Nat.mul_ne_zero h0 (Nat.pos_iff_ne_zero.1 (Nat.two_pow_pos _)))]
 have e1 : 2 ^ (m.log2 + k) = 2 ^ m.log2 * 2 ^ k := Nat.pow_add ..
 have e2 : 2 ^ (m.log2 + k + 1) = 2 ^ (m.log2 + 1) * 2 ^ k := by rw [<- Nat.pow_add]; congr 1; omega
 exact ⟨by rw [e1]; exact Nat.mul_le_mul_right _ h1, by rw [e2]; exact Nat.mul_lt_mul_of_pos_right h2 (Nat.two_pow_pos _)⟩
end Go.Proofs.YtjpaijnmiaoopaaGreatDoor
end
section
namespace Go.Mach
open Ieee
theorem signed_add (s : Bool) (m a c : Nat) : signed s m (a + c) = signed s m a * 2 ^ c := by
 unfold signed
 rw [Nat.shiftLeft_add]
 generalize m <<< a = q
 have : ((q <<< c : Nat) : Int) = (q : Int) * 2 ^ c := by
  rw [Nat.shiftLeft_eq]; push_cast; rfl
 cases s
 ·simp only [Bool.false_eq_true, if_false]; exact this
 ·simp only [if_true]; rw [this, Int.neg_mul]
theorem pow2_pos (E : Nat) : (0 : Int) < 2 ^ E := Int.pow_pos (by decide)
theorem abs_mul_pow (n : Int) (E : Nat) : (n * 2 ^ E).natAbs = n.natAbs * 2 ^ E := by
 rw [Int.natAbs_mul, Int.natAbs_pow]; rfl
theorem signed_mul (s t : Bool) (m n a b : Nat) : signed (s ^^ t) (m * n) (a + b) = signed s m a * signed t n b := by
 unfold signed
 simp only [Nat.shiftLeft_eq]
 have e : m * n * 2 ^ (a + b) = (m * 2 ^ a) * (n * 2 ^ b) := by rw [Nat.pow_add]; ac_rfl
 rw [e]
 generalize m * 2 ^ a = p
 generalize n * 2 ^ b = q
 cases s <;> cases t <;> simp [Int.neg_mul, Int.mul_neg]
theorem sum_num (s t : Bool) (m n : Nat) (i j : Int) : ∃ sg, ((Datum.number s m i).sum (.number t n j)).map Ieee.double.write = some (Ieee.double.nearest sg (signed s m (i - min i j).toNat + signed t n (j - min i j).toNat).natAbs (min i j)) /\
  (signed s m (i - min i j).toNat + signed t n (j - min i j).toNat ≠ 0 -> sg = decide (signed s m (i - min i j).toNat + signed t n (j - min i j).toNat < 0)) := by
 refine ⟨_, rfl, fun h => ?_⟩
 rw [if_neg h]
 congr
end Go.Mach
end
