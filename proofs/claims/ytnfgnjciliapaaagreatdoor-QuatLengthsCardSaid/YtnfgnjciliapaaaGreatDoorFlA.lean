/-
  FLOATS, first part: what is written and read again; noughts; one.
  Conditions: none.
-/
import Derived.Test.YtnfgnjciliapaaaGreatDoorMachP
section
namespace Go.Mach
open Ieee

theorem leastPlace_d : Ieee.double.leastPlace = -1074 := by decide
theorem binade_d : Ieee.double.binade = 4503599627370496 := by decide
theorem signWeight_d : Ieee.double.signWeight = 9223372036854775808 := by decide
theorem infRung_d : Ieee.double.infRung = 9218868437227405312 := by decide

abbrev W64 (b : Nat) : Prop := b < 18446744073709551616

theorem cut_zero (s : Bool) (n : Nat) : Toward.even.cut s n 0 = n := by
  simp [Toward.cut, Nat.mod_one]
theorem read_number {b : Nat} {s : Bool} {m : Nat} {i : Int} (h : Ieee.double.read b = .number s m i) :
    (s = (b / 9223372036854775808 % 2 == 1)) /\ b % 9223372036854775808 < 9218868437227405312 /\
    ((b % 9223372036854775808 < 4503599627370496 /\ m = b % 9223372036854775808 /\ i = -1074) \/
     (4503599627370496 <= b % 9223372036854775808 /\ m = 4503599627370496 + b % 9223372036854775808 % 4503599627370496 /\ i = -1074 + ((b % 9223372036854775808 / 4503599627370496 - 1 : Nat) : Int))) := by
  unfold Format.read at h
  simp only [signWeight_d, binade_d, infRung_d, leastPlace_d] at h
  split at h
  · cases h
    exact ⟨rfl, by omega, .inl ⟨by assumption, rfl, rfl⟩⟩
  · split at h
    · cases h
      exact ⟨rfl, by omega, .inr ⟨by omega, rfl, rfl⟩⟩
    · split at h <;> cases h
end Go.Mach
end
section
namespace Go.Mach
open Ieee

theorem nearest_zero (s : Bool) (i : Int) : Ieee.double.nearest s 0 i = Ieee.double.word s 0 := by simp [Format.nearest]
theorem read_zero : Ieee.double.read 0 = .number false 0 (-1074) := by decide
theorem read_word0 (s : Bool) : Ieee.double.read (Ieee.double.word s 0) = .number s 0 (-1074) := by cases s <;> decide
theorem place_ge {b : Nat} {s : Bool} {m : Nat} {i : Int} (h : Ieee.double.read b = .number s m i) : -1074 <= i := by
  obtain ⟨-, -, h⟩ := read_number h
  omega
theorem signed_zero (s : Bool) (k : Nat) : signed s 0 k = 0 := by cases s <;> simp [signed]
end Go.Mach
end
section
namespace Go.Mach
open Ieee

def FW (x : Fl) : Prop := ∀ b, x = some b -> W64 b
theorem finF_num {x : Fl} (h : finF x = true) : ∃ b s m i, x = some b /\ Ieee.double.read b = .number s m i := by
  cases x with
  | none => cases h
  | some b =>
    simp only [finF] at h
    cases e : Ieee.double.read b with
    | number s m i => exact ⟨b, s, m, i, rfl, e⟩
    | infinity s => rw [e] at h; cases h
    | nan s t => rw [e] at h; cases h
theorem finF_of {b : Nat} {s : Bool} {m : Nat} {i : Int} (h : Ieee.double.read b = .number s m i) : finF (some b) = true := by simp [finF, h, isNum]
theorem canon_FW {n : Nat} (h : W64 n) : FW (canon n) := by
  intro b hb
  unfold canon at hb
  cases hn : isNaN n with
  | true => rw [hn] at hb; cases hb
  | false => rw [hn] at hb; cases hb; exact h
end Go.Mach
end
section
namespace Go.Mach
open Ieee

theorem place_le {b : Nat} {s : Bool} {m : Nat} {i : Int} (h : Ieee.double.read b = .number s m i) : i <= 971 /\ m < 9007199254740992 := by
  obtain ⟨-, h1, h⟩ := read_number h
  rcases h with ⟨h2, rfl, rfl⟩ | ⟨h2, rfl, rfl⟩
  · exact ⟨by omega, by omega⟩
  · refine ⟨by omega, by omega⟩
theorem word_W64 (s : Bool) {r : Nat} (h : r < 9223372036854775808) : W64 (Ieee.double.word s r) := by
  unfold W64 Format.word; rw [signWeight_d]; cases s <;> simp <;> omega
end Go.Mach
end
section
namespace Go.Proofs.YtnfgnjciliapaaaGreatDoor
open Go Go.Mach Ieee
set_option linter.unusedVariables false

theorem cut_ge (s : Bool) (n d : Nat) (hd : d <= n.log2 + 2) : n / (1 <<< d) <= Toward.even.cut s n d := by
  unfold Toward.cut
  rw [Nat.min_eq_left hd]
  exact Nat.le_add_right _ _
theorem cut_le (s : Bool) (n d : Nat) (hn : n ≠ 0) : Toward.even.cut s n d <= 2 ^ (n.log2 + 1 - d) := by
  have hb : ∀ b : Bool, b.toNat <= 1 := by decide
  unfold Toward.cut
  dsimp only
  have h2 : n < 2 ^ (n.log2 + 1) := Nat.lt_log2_self
  by_cases h : d <= n.log2 + 1
  · rw [Nat.min_eq_left (by omega), Nat.shiftLeft_eq, Nat.one_mul]
    have e : 2 ^ (n.log2 + 1) = 2 ^ d * 2 ^ (n.log2 + 1 - d) := by rw [<- Nat.pow_add, show d + (n.log2 + 1 - d) = n.log2 + 1 by omega]
    have h3 : n / 2 ^ d < 2 ^ (n.log2 + 1 - d) := by
      rw [Nat.div_lt_iff_lt_mul (Nat.two_pow_pos _), Nat.mul_comm, <- e]; exact h2
    generalize 2 ^ (n.log2 + 1 - d) = q at *
    refine Nat.le_trans (Nat.add_le_add_left (hb _) _) h3
  · rw [show n.log2 + 1 - d = 0 by omega, Nat.min_eq_right (by omega), Nat.shiftLeft_eq, Nat.one_mul]
    have h3 : n / 2 ^ (n.log2 + 2) = 0 := Nat.div_eq_of_lt (Nat.lt_trans h2 (Nat.pow_lt_pow_right (by decide) (by omega)))
    rw [h3, Nat.zero_add]; exact hb _
theorem log2_shl {m : Nat} (h0 : m ≠ 0) (k : Nat) : (m <<< k).log2 = m.log2 + k := by
  have h1 := Nat.log2_self_le h0
  have h2 : m < 2 ^ (m.log2 + 1) := Nat.lt_log2_self
  rw [Nat.shiftLeft_eq, Nat.log2_eq_iff (Nat.mul_ne_zero h0 (Nat.pos_iff_ne_zero.1 (Nat.two_pow_pos _)))]
  have e1 : 2 ^ (m.log2 + k) = 2 ^ m.log2 * 2 ^ k := Nat.pow_add ..
  have e2 : 2 ^ (m.log2 + k + 1) = 2 ^ (m.log2 + 1) * 2 ^ k := by rw [<- Nat.pow_add]; congr 1; omega
  exact ⟨by rw [e1]; exact Nat.mul_le_mul_right _ h1, by rw [e2]; exact Nat.mul_lt_mul_of_pos_right h2 (Nat.two_pow_pos _)⟩
end Go.Proofs.YtnfgnjciliapaaaGreatDoor
end
section
namespace Go.Mach
open Ieee

theorem signed_add (s : Bool) (m a c : Nat) : signed s m (a + c) = signed s m a * 2 ^ c := by
  unfold signed
  rw [Nat.shiftLeft_add]
  generalize m <<< a = q
  have : ((q <<< c : Nat) : Int) = (q : Int) * 2 ^ c := by
    rw [Nat.shiftLeft_eq]; push_cast; rfl
  cases s
  · simp only [Bool.false_eq_true, if_false]; exact this
  · simp only [if_true]; rw [this, Int.neg_mul]
theorem signed_abs (s : Bool) (m k : Nat) : (signed s m k).natAbs = m * 2 ^ k := by
  unfold signed
  rw [Nat.shiftLeft_eq]
  cases s
  · exact Int.natAbs_natCast _
  · show (-(((m * 2 ^ k : Nat) : Int))).natAbs = _
    rw [Int.natAbs_neg]; exact Int.natAbs_natCast _
theorem pow2_pos (E : Nat) : (0 : Int) < 2 ^ E := Int.pow_pos (by decide)
theorem abs_mul_pow (n : Int) (E : Nat) : (n * 2 ^ E).natAbs = n.natAbs * 2 ^ E := by
  rw [Int.natAbs_mul, Int.natAbs_pow]; rfl
theorem signed_mul (s t : Bool) (m n a b : Nat) : signed (s ^^ t) (m * n) (a + b) = signed s m a * signed t n b := by
  unfold signed
  simp only [Nat.shiftLeft_eq]
  have e : m * n * 2 ^ (a + b) = (m * 2 ^ a) * (n * 2 ^ b) := by rw [Nat.pow_add]; ac_rfl
  rw [e]
  generalize m * 2 ^ a = p
  generalize n * 2 ^ b = q
  cases s <;> cases t <;> simp [Int.neg_mul, Int.mul_neg]
theorem sum_num (s t : Bool) (m n : Nat) (i j : Int) : ∃ sg, ((Datum.number s m i).sum (.number t n j)).map Ieee.double.write = some (Ieee.double.nearest sg (signed s m (i - min i j).toNat + signed t n (j - min i j).toNat).natAbs (min i j)) /\
    (signed s m (i - min i j).toNat + signed t n (j - min i j).toNat ≠ 0 -> sg = decide (signed s m (i - min i j).toNat + signed t n (j - min i j).toNat < 0)) := by
  refine ⟨_, rfl, fun h => ?_⟩
  rw [if_neg h]
  congr
theorem signed_not (t : Bool) (n k : Nat) : signed (!t) n k = - signed t n k := by
  unfold signed; cases t <;> simp
end Go.Mach
end
