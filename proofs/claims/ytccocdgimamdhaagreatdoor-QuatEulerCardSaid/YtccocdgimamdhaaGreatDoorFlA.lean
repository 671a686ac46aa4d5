/-
  FLOATS, first part: what is written and read again; noughts; one.
  Conditions: none.
-/
import Derived.Test.YtccocdgimamdhaaGreatDoorMachP
section
namespace Go.Mach
open Ieee

theorem leastPlace_d : Ieee.double.leastPlace = -1074 := by decide
theorem binade_d : Ieee.double.binade = 4503599627370496 := by decide
theorem signWeight_d : Ieee.double.signWeight = 9223372036854775808 := by decide
theorem infRung_d : Ieee.double.infRung = 9218868437227405312 := by decide

abbrev W64 (b : Nat) : Prop := b < 18446744073709551616

theorem cut_zero (s : Bool) (n : Nat) : Toward.even.cut s n 0 = n := by
  simp [Toward.cut, Nat.mod_one]
theorem cut_double (s : Bool) (n d : Nat) (hn : 0 < n) : Toward.even.cut s (2 * n) (d + 1) = Toward.even.cut s n d := by
  have hl : (2 * n).log2 = n.log2 + 1 := Nat.log2_two_mul (by omega)
  unfold Toward.cut
  have hm : min (d + 1) ((2 * n).log2 + 2) = min d (n.log2 + 2) + 1 := by rw [hl]; omega
  rw [hm]
  generalize min d (n.log2 + 2) = g
  have hg : 1 <<< (g + 1) = 2 * (1 <<< g) := by rw [Nat.shiftLeft_eq, Nat.shiftLeft_eq, Nat.pow_succ]; omega
  have e1 : 2 * n / (1 <<< (g + 1)) = n / (1 <<< g) := by rw [hg]; exact Nat.mul_div_mul_left _ _ (by decide)
  have e2 : 2 * n % (1 <<< (g + 1)) = 2 * (n % (1 <<< g)) := by rw [hg]; exact Nat.mul_mod_mul_left _ _ _
  have e3 : ∀ q r : Nat, (decide (2 * (1 <<< g) < 2 * (2 * r)) || (2 * (1 <<< g) == 2 * (2 * r) && q % 2 == 1)) = (decide (1 <<< g < 2 * r) || (1 <<< g == 2 * r && q % 2 == 1)) := by
    intro q r
    rw [Bool.eq_iff_iff]
    simp only [Bool.or_eq_true, Bool.and_eq_true, decide_eq_true_eq, beq_iff_eq]
    omega
  show 2 * n / (1 <<< (g + 1)) + (decide (1 <<< (g + 1) < 2 * (2 * n % (1 <<< (g + 1)))) || (1 <<< (g + 1) == 2 * (2 * n % (1 <<< (g + 1))) && 2 * n / (1 <<< (g + 1)) % 2 == 1)).toNat = _
  rw [e1, e2, hg, e3]
theorem nearest_double (s : Bool) (m : Nat) (i : Int) : Ieee.double.nearest s (2 * m) (i - 1) = Ieee.double.nearest s m i := by
  unfold Format.nearest
  by_cases hm : m = 0
  · simp [hm]
  · rw [if_neg (by omega), if_neg hm]
    have hl : (2 * m).log2 = m.log2 + 1 := Nat.log2_two_mul hm
    have hp : i - 1 + ((2 * m).log2 : Int) = i + (m.log2 : Int) := by rw [hl]; omega
    rw [hp]
    generalize hL : max (i + (m.log2 : Int) - Ieee.double.fractionBits) Ieee.double.leastPlace = L
    simp only
    have key : Toward.even.cut s ((2 * m) <<< (i - 1 - L).toNat) (L - (i - 1)).toNat = Toward.even.cut s (m <<< (i - L).toNat) (L - i).toNat := by
      by_cases h : i <= L
      · have e1 : (i - 1 - L).toNat = 0 := by omega
        have e2 : (i - L).toNat = 0 := by omega
        have e3 : (L - (i - 1)).toNat = (L - i).toNat + 1 := by omega
        rw [e1, e2, e3, Nat.shiftLeft_zero, Nat.shiftLeft_zero]
        exact cut_double s m _ (by omega)
      · have e1 : (L - (i - 1)).toNat = 0 := by omega
        have e2 : (L - i).toNat = 0 := by omega
        have e3 : (i - L).toNat = (i - 1 - L).toNat + 1 := by omega
        rw [e1, e2, e3, Nat.shiftLeft_eq, Nat.shiftLeft_eq, Nat.pow_succ]
        congr 1
        rw [Nat.mul_comm 2 m, Nat.mul_assoc, Nat.mul_comm 2]
    rw [key]
theorem nearest_shift (s : Bool) (m : Nat) (i : Int) : ∀ k : Nat, Ieee.double.nearest s (m <<< k) (i - k) = Ieee.double.nearest s m i
  | 0 => by simp
  | k + 1 => by
    have e1 : m <<< (k + 1) = 2 * (m <<< k) := by rw [Nat.shiftLeft_eq, Nat.shiftLeft_eq, Nat.pow_succ]; rw [Nat.mul_comm 2, Nat.mul_assoc]
    have e2 : i - ((k + 1 : Nat) : Int) = (i - (k : Int)) - 1 := by omega
    rw [e1, e2, nearest_double, nearest_shift s m i k]

theorem read_number {b : Nat} {s : Bool} {m : Nat} {i : Int} (h : Ieee.double.read b = .number s m i) :
    (s = (b / 9223372036854775808 % 2 == 1)) /\ b % 9223372036854775808 < 9218868437227405312 /\
    ((b % 9223372036854775808 < 4503599627370496 /\ m = b % 9223372036854775808 /\ i = -1074) \/
     (4503599627370496 <= b % 9223372036854775808 /\ m = 4503599627370496 + b % 9223372036854775808 % 4503599627370496 /\ i = -1074 + ((b % 9223372036854775808 / 4503599627370496 - 1 : Nat) : Int))) := by
  unfold Format.read at h
  simp only [signWeight_d, binade_d, infRung_d, leastPlace_d] at h
  split at h
  · cases h
    exact ⟨rfl, by omega, .inl ⟨by assumption, rfl, rfl⟩⟩
  · split at h
    · cases h
      exact ⟨rfl, by omega, .inr ⟨by omega, rfl, rfl⟩⟩
    · split at h <;> cases h
theorem word_back {b : Nat} (hb : W64 b) : Ieee.double.word (b / 9223372036854775808 % 2 == 1) (b % 9223372036854775808) = b := by
  unfold Format.word
  rw [signWeight_d]
  by_cases h : b / 9223372036854775808 % 2 = 1
  · rw [h]; simp; omega
  · have : b / 9223372036854775808 % 2 = 0 := by omega
    rw [this]; simp; omega
theorem write_read {b : Nat} (hb : W64 b) {s : Bool} {m : Nat} {i : Int} (h : Ieee.double.read b = .number s m i) : Ieee.double.nearest s m i = b := by
  obtain ⟨rfl, hlt, h⟩ := read_number h
  unfold Format.nearest
  have hf : Ieee.double.fractionBits = 52 := rfl
  rw [leastPlace_d, binade_d, infRung_d, hf]
  rcases h with ⟨h1, rfl, rfl⟩ | ⟨h1, rfl, rfl⟩
  · by_cases h0 : b % 9223372036854775808 = 0
    · rw [if_pos h0]
      have := word_back hb
      rwa [h0] at this
    · rw [if_neg h0]
      have hlog : (b % 9223372036854775808).log2 < 52 := (Nat.log2_lt h0).2 (by simpa using h1)
      have hL : max ((-1074 : Int) + ((b % 9223372036854775808).log2 : Int) - (52 : Nat)) (-1074) = -1074 := by omega
      simp only [hL]
      have e0 : ((-1074 : Int) - -1074).toNat = 0 := by decide
      rw [e0, Nat.shiftLeft_zero, cut_zero, Nat.zero_mul, Nat.zero_add, Nat.min_eq_left (by omega)]
      exact word_back hb
  · generalize hr : b % 9223372036854775808 = r at *
    have hm : 4503599627370496 + r % 4503599627370496 ≠ 0 := by omega
    rw [if_neg hm]
    have hlog : (4503599627370496 + r % 4503599627370496).log2 = 52 := by
      rw [Nat.log2_eq_iff hm]; constructor <;> omega
    simp only [hlog]
    have hL : max ((-1074 : Int) + ((r / 4503599627370496 - 1 : Nat) : Int) + ((52 : Nat) : Int) - (52 : Nat)) (-1074) = -1074 + ((r / 4503599627370496 - 1 : Nat) : Int) := by omega
    rw [hL]
    have e0 : ((-1074 : Int) + ((r / 4503599627370496 - 1 : Nat) : Int) - (-1074 + ((r / 4503599627370496 - 1 : Nat) : Int))).toNat = 0 := by omega
    have e1 : ((-1074 : Int) + ((r / 4503599627370496 - 1 : Nat) : Int) - -1074).toNat = r / 4503599627370496 - 1 := by omega
    rw [e0, e1, Nat.shiftLeft_zero, cut_zero]
    have e2 : (r / 4503599627370496 - 1) * 4503599627370496 + (4503599627370496 + r % 4503599627370496) = r := by
      have := Nat.div_add_mod r 4503599627370496
      have h3 : 1 <= r / 4503599627370496 := by omega
      rw [Nat.sub_mul]; omega
    rw [e2, Nat.min_eq_left (by omega), <- hr]
    exact word_back hb

end Go.Mach
end
section
namespace Go.Mach
open Ieee

theorem nearest_zero (s : Bool) (i : Int) : Ieee.double.nearest s 0 i = Ieee.double.word s 0 := by simp [Format.nearest]
theorem read_word0 (s : Bool) : Ieee.double.read (Ieee.double.word s 0) = .number s 0 (-1074) := by cases s <;> decide
theorem place_ge {b : Nat} {s : Bool} {m : Nat} {i : Int} (h : Ieee.double.read b = .number s m i) : -1074 <= i := by
  obtain ⟨-, -, h⟩ := read_number h
  omega
theorem signed_zero (s : Bool) (k : Nat) : signed s 0 k = 0 := by cases s <;> simp [signed]
end Go.Mach
end
section
namespace Go.Mach
open Ieee

def FW (x : Fl) : Prop := ∀ b, x = some b -> W64 b
theorem word0 : Ieee.double.word false 0 = 0 := by decide
theorem finF_num {x : Fl} (h : finF x = true) : ∃ b s m i, x = some b /\ Ieee.double.read b = .number s m i := by
  cases x with
  | none => cases h
  | some b =>
    simp only [finF] at h
    cases e : Ieee.double.read b with
    | number s m i => exact ⟨b, s, m, i, rfl, e⟩
    | infinity s => rw [e] at h; cases h
    | nan s t => rw [e] at h; cases h
theorem finF_of {b : Nat} {s : Bool} {m : Nat} {i : Int} (h : Ieee.double.read b = .number s m i) : finF (some b) = true := by simp [finF, h, isNum]
end Go.Mach
end
section
namespace Go.Mach
open Ieee

theorem place_le {b : Nat} {s : Bool} {m : Nat} {i : Int} (h : Ieee.double.read b = .number s m i) : i <= 971 /\ m < 9007199254740992 := by
  obtain ⟨-, h1, h⟩ := read_number h
  rcases h with ⟨h2, rfl, rfl⟩ | ⟨h2, rfl, rfl⟩
  · exact ⟨by omega, by omega⟩
  · refine ⟨by omega, by omega⟩
theorem read_normal (s : Bool) (M : Nat) (P : Int) (hM : 4503599627370496 <= M /\ M < 9007199254740992) (hP : -1074 <= P /\ P <= 971) :
    Ieee.double.read (Ieee.double.word s ((P + 1075).toNat * 4503599627370496 + (M - 4503599627370496))) = .number s M P := by
  have hE : 1 <= (P + 1075).toNat /\ (P + 1075).toNat <= 2046 := by omega
  generalize hEe : (P + 1075).toNat = E at hE ⊢
  have hr : E * 4503599627370496 + (M - 4503599627370496) < 9218868437227405312 := by omega
  unfold Format.read
  simp only [signWeight_d, binade_d, infRung_d, leastPlace_d]
  have hw : Ieee.double.word s (E * 4503599627370496 + (M - 4503599627370496)) % 9223372036854775808 = E * 4503599627370496 + (M - 4503599627370496) := by
    unfold Format.word; rw [signWeight_d]; cases s <;> simp <;> omega
  have hs : (Ieee.double.word s (E * 4503599627370496 + (M - 4503599627370496)) / 9223372036854775808 % 2 == 1) = s := by
    unfold Format.word; rw [signWeight_d]
    cases s
    · simp; omega
    · have : (9223372036854775808 + (E * 4503599627370496 + (M - 4503599627370496))) / 9223372036854775808 = 1 := by omega
      simp [this]
  rw [hw, hs, if_neg (by omega), if_pos hr]
  have e1 : 4503599627370496 + (E * 4503599627370496 + (M - 4503599627370496)) % 4503599627370496 = M := by omega
  have e2 : (-1074 : Int) + (((E * 4503599627370496 + (M - 4503599627370496)) / 4503599627370496 - 1 : Nat) : Int) = P := by omega
  rw [e1, e2]
theorem word_W64 (s : Bool) {r : Nat} (h : r < 9223372036854775808) : W64 (Ieee.double.word s r) := by
  unfold W64 Format.word; rw [signWeight_d]; cases s <;> simp <;> omega
theorem lift52 {m : Nat} (h0 : m ≠ 0) (h : m < 9007199254740992) : 4503599627370496 <= m <<< (52 - m.log2) /\ m <<< (52 - m.log2) < 9007199254740992 := by
  have h1 := Nat.log2_self_le h0
  have h2 : m < 2 ^ (m.log2 + 1) := Nat.lt_log2_self
  have h3 : m.log2 <= 52 := by
    have := (Nat.log2_lt h0).2 (by simpa using h : m < 2 ^ 53)
    omega
  rw [Nat.shiftLeft_eq]
  have e1 : 2 ^ m.log2 * 2 ^ (52 - m.log2) = 4503599627370496 := by rw [<- Nat.pow_add, show m.log2 + (52 - m.log2) = 52 by omega]
  have e2 : 2 ^ (m.log2 + 1) * 2 ^ (52 - m.log2) = 9007199254740992 := by rw [<- Nat.pow_add, show m.log2 + 1 + (52 - m.log2) = 53 by omega]
  exact ⟨by rw [<- e1]; exact Nat.mul_le_mul_right _ h1, by rw [<- e2]; exact Nat.mul_lt_mul_of_pos_right h2 (Nat.two_pow_pos _)⟩
theorem nearest_lift (s : Bool) (m : Nat) (i : Int) : Ieee.double.nearest s (m <<< (52 - m.log2)) (i - ((52 - m.log2 : Nat) : Int)) = Ieee.double.nearest s m i := nearest_shift s m i _
end Go.Mach
end
section
namespace Go.Mach
open Ieee

def Wh (x : Fl) (n : Int) : Prop := ∃ b s m i, ∃ E : Nat, x = some b /\ W64 b /\ Ieee.double.read b = .number s m i /\ 0 <= i + E /\ signed s m (i + E).toNat = n * 2 ^ E
theorem signed_add (s : Bool) (m a c : Nat) : signed s m (a + c) = signed s m a * 2 ^ c := by
  unfold signed
  rw [Nat.shiftLeft_add]
  generalize m <<< a = q
  have : ((q <<< c : Nat) : Int) = (q : Int) * 2 ^ c := by
    rw [Nat.shiftLeft_eq]; push_cast; rfl
  cases s
  · simp only [Bool.false_eq_true, if_false]; exact this
  · simp only [if_true]; rw [this, Int.neg_mul]
theorem signed_abs (s : Bool) (m k : Nat) : (signed s m k).natAbs = m * 2 ^ k := by
  unfold signed
  rw [Nat.shiftLeft_eq]
  cases s
  · exact Int.natAbs_natCast _
  · show (-(((m * 2 ^ k : Nat) : Int))).natAbs = _
    rw [Int.natAbs_neg]; exact Int.natAbs_natCast _
theorem pow2_pos (E : Nat) : (0 : Int) < 2 ^ E := Int.pow_pos (by decide)
theorem mul_pow_inj {a b : Int} {E : Nat} (h : a * 2 ^ E = b * 2 ^ E) : a = b := Int.eq_of_mul_eq_mul_right (by have := pow2_pos E; omega) h
theorem abs_mul_pow (n : Int) (E : Nat) : (n * 2 ^ E).natAbs = n.natAbs * 2 ^ E := by
  rw [Int.natAbs_mul, Int.natAbs_pow]; rfl
theorem nearest_whole (s : Bool) {m : Nat} {i : Int} {n E : Nat} (hi : 0 <= i + E) (h : m * 2 ^ (i + E).toNat = n * 2 ^ E) : Ieee.double.nearest s m i = Ieee.double.nearest s n 0 := by
  have hp : ∀ k : Nat, 0 < 2 ^ k := fun k => Nat.pow_pos (by decide)
  by_cases h0 : 0 <= i
  · have e1 : (i + E).toNat = i.toNat + E := by omega
    rw [e1, Nat.pow_add, <- Nat.mul_assoc] at h
    have h := Nat.eq_of_mul_eq_mul_right (hp E) h
    have := nearest_shift s m i i.toNat
    rw [<- this, Nat.shiftLeft_eq, h]
    congr 1; omega
  · have e1 : E = (i + E).toNat + (-i).toNat := by omega
    rw [show n * 2 ^ E = n * 2 ^ (-i).toNat * 2 ^ (i + E).toNat by rw [Nat.mul_assoc, <- Nat.pow_add]; congr 2; omega] at h
    have h := Nat.eq_of_mul_eq_mul_right (hp _) h
    have := nearest_shift s n 0 (-i).toNat
    rw [<- this, Nat.shiftLeft_eq, h]
    congr 1; omega
theorem wh_word0 (s : Bool) : Wh (some (Ieee.double.word s 0)) 0 :=
  ⟨_, s, 0, -1074, 1074, rfl, by cases s <;> decide, read_word0 s, by decide, by rw [signed_zero, Int.zero_mul]⟩
theorem wh_nearest (s : Bool) {n : Nat} (hn : n < 9007199254740992) : Wh (some (Ieee.double.nearest s n 0)) (if s = true then -(n : Int) else n) := by
  by_cases h0 : n = 0
  · subst h0
    rw [nearest_zero]
    have := wh_word0 s
    cases s <;> exact this
  · have hM := lift52 h0 hn
    have hP : (-1074 : Int) <= 0 - ((52 - n.log2 : Nat) : Int) /\ 0 - ((52 - n.log2 : Nat) : Int) <= 971 := by omega
    have hr := read_normal s _ _ hM hP
    have hw : W64 (Ieee.double.word s ((0 - ((52 - n.log2 : Nat) : Int) + 1075).toNat * 4503599627370496 + (n <<< (52 - n.log2) - 4503599627370496))) := word_W64 s (by
      have := hM.1; have := hM.2; omega)
    have e := write_read hw hr
    rw [nearest_lift] at e
    rw [e]
    refine ⟨_, s, _, _, 52 - n.log2, rfl, hw, hr, by omega, ?_⟩
    have : (0 - ((52 - n.log2 : Nat) : Int) + ((52 - n.log2 : Nat) : Int)).toNat = 0 := by omega
    rw [this]
    unfold signed
    rw [Nat.shiftLeft_zero, Nat.shiftLeft_eq]
    cases s
    · simp
    · simp only [if_true]; push_cast; rw [Int.neg_mul]
theorem wh_of {s : Bool} {m : Nat} {i : Int} {E : Nat} {n : Int} (hi : 0 <= i + E) (h : signed s m (i + E).toNat = n * 2 ^ E) (hn : n.natAbs < 9007199254740992) (hs : n ≠ 0 -> s = decide (n < 0)) :
    Wh (some (Ieee.double.nearest s m i)) n := by
  have h1 := congrArg Int.natAbs h
  rw [signed_abs, abs_mul_pow] at h1
  rw [nearest_whole s hi h1]
  have := wh_nearest s hn
  by_cases h0 : n = 0
  · subst h0
    have e : (if s = true then -((Int.natAbs 0 : Nat) : Int) else ((Int.natAbs 0 : Nat) : Int)) = 0 := by cases s <;> rfl
    rw [e] at this
    exact this
  · have hs := hs h0
    have e : (if s = true then -((n.natAbs : Nat) : Int) else ((n.natAbs : Nat) : Int)) = n := by
      rw [hs]
      by_cases hl : n < 0
      · rw [decide_eq_true hl, if_pos rfl]; omega
      · rw [decide_eq_false hl]; simp; omega
    rw [e] at this
    exact this
theorem sign_of {s : Bool} {m k : Nat} {n : Int} {E : Nat} (h : signed s m k = n * 2 ^ E) (h0 : n ≠ 0) : s = decide (n < 0) := by
  have hp := pow2_pos E
  have hm : m ≠ 0 := by
    rintro rfl
    rw [signed_zero] at h
    exact h0 (by
      have := Int.mul_eq_zero.1 h.symm
      rcases this with h | h
      · exact h
      · omega)
  have hsh : (0 : Int) < ((m <<< k : Nat) : Int) := by
    rw [Nat.shiftLeft_eq]
    have : 0 < m * 2 ^ k := Nat.mul_pos (by omega) (Nat.pow_pos (by decide))
    omega
  unfold signed at h
  cases s
  · simp only [Bool.false_eq_true, if_false] at h
    symm; apply decide_eq_false
    intro hl
    have := Int.mul_neg_of_neg_of_pos hl hp
    omega
  · simp only [if_true] at h
    symm; apply decide_eq_true
    apply Int.not_le.1
    intro hl
    have := Int.mul_nonneg hl (Int.le_of_lt hp)
    omega
theorem signed_mul (s t : Bool) (m n a b : Nat) : signed (s ^^ t) (m * n) (a + b) = signed s m a * signed t n b := by
  unfold signed
  simp only [Nat.shiftLeft_eq]
  have e : m * n * 2 ^ (a + b) = (m * 2 ^ a) * (n * 2 ^ b) := by rw [Nat.pow_add]; ac_rfl
  rw [e]
  generalize m * 2 ^ a = p
  generalize n * 2 ^ b = q
  cases s <;> cases t <;> simp [Int.neg_mul, Int.mul_neg]
theorem wh_mul {x y : Fl} {a b : Int} (hx : Wh x a) (hy : Wh y b) (h : (a * b).natAbs < 9007199254740992) : Wh (fmul x y) (a * b) := by
  obtain ⟨c, s, m, i, E, rfl, wc, rc, hi, hv⟩ := hx
  obtain ⟨d, t, n, j, F, rfl, wd, rd, hj, hw⟩ := hy
  show Wh ((((Ieee.double.read c).product (Ieee.double.read d))).map Ieee.double.write) _
  rw [rc, rd]
  show Wh (some (Ieee.double.nearest (s ^^ t) (m * n) (i + j))) _
  have hE : signed (s ^^ t) (m * n) (i + j + ((E + F : Nat) : Int)).toNat = (a * b) * 2 ^ (E + F) := by
    have : (i + j + ((E + F : Nat) : Int)).toNat = (i + E).toNat + (j + F).toNat := by omega
    rw [this, signed_mul, hv, hw, Int.pow_add]
    ac_rfl
  exact wh_of (E := E + F) (by omega) hE h (fun h0 => sign_of hE h0)
theorem sum_num (s t : Bool) (m n : Nat) (i j : Int) : ∃ sg, ((Datum.number s m i).sum (.number t n j)).map Ieee.double.write = some (Ieee.double.nearest sg (signed s m (i - min i j).toNat + signed t n (j - min i j).toNat).natAbs (min i j)) /\
    (signed s m (i - min i j).toNat + signed t n (j - min i j).toNat ≠ 0 -> sg = decide (signed s m (i - min i j).toNat + signed t n (j - min i j).toNat < 0)) := by
  refine ⟨_, rfl, fun h => ?_⟩
  rw [if_neg h]
  congr
theorem wh_sum {s t : Bool} {m n : Nat} {i j : Int} {a b : Int} {E F : Nat} (hi : 0 <= i + E) (hv : signed s m (i + E).toNat = a * 2 ^ E) (hj : 0 <= j + F) (hw : signed t n (j + F).toNat = b * 2 ^ F) (h : (a + b).natAbs < 9007199254740992) :
    Wh (((Datum.number s m i).sum (.number t n j)).map Ieee.double.write) (a + b) := by
  obtain ⟨sg, e, hsg⟩ := sum_num s t m n i j
  rw [e]
  generalize hT : signed s m (i - min i j).toNat + signed t n (j - min i j).toNat = T at hsg
  have hE : T * 2 ^ (min i j + ((E + F : Nat) : Int)).toNat = (a + b) * 2 ^ (E + F) := by
    rw [<- hT, Int.add_mul, <- signed_add, <- signed_add]
    have e1 : (i - min i j).toNat + (min i j + ((E + F : Nat) : Int)).toNat = (i + E).toNat + F := by omega
    have e2 : (j - min i j).toNat + (min i j + ((E + F : Nat) : Int)).toNat = (j + F).toNat + E := by omega
    rw [e1, e2, signed_add, signed_add, hv, hw, Int.pow_add, Int.add_mul]
    ac_rfl
  have hs : signed sg T.natAbs (min i j + ((E + F : Nat) : Int)).toNat = (a + b) * 2 ^ (E + F) := by
    rw [<- hE]
    generalize (min i j + ((E + F : Nat) : Int)).toNat = q
    by_cases h0 : T = 0
    · subst h0; rw [Int.natAbs_zero, signed_zero, Int.zero_mul]
    · rw [hsg h0]
      unfold signed
      rw [Nat.shiftLeft_eq]
      have ec : ((T.natAbs * 2 ^ q : Nat) : Int) = (T.natAbs : Int) * 2 ^ q := by rw [Int.natCast_mul, Int.natCast_pow]; rfl
      rw [ec]
      by_cases hl : T < 0
      · rw [decide_eq_true hl, if_pos rfl, show ((T.natAbs : Nat) : Int) = -T by omega, Int.neg_mul, Int.neg_neg]
      · rw [decide_eq_false hl, if_neg (by decide), show ((T.natAbs : Nat) : Int) = T by omega]
  exact wh_of (E := E + F) (by omega) hs h (fun h0 => sign_of hs h0)
theorem wh_add {x y : Fl} {a b : Int} (hx : Wh x a) (hy : Wh y b) (h : (a + b).natAbs < 9007199254740992) : Wh (fadd x y) (a + b) := by
  obtain ⟨c, s, m, i, E, rfl, wc, rc, hi, hv⟩ := hx
  obtain ⟨d, t, n, j, F, rfl, wd, rd, hj, hw⟩ := hy
  show Wh ((((Ieee.double.read c).sum (Ieee.double.read d))).map Ieee.double.write) _
  rw [rc, rd]
  exact wh_sum hi hv hj hw h
theorem signed_not (t : Bool) (n k : Nat) : signed (!t) n k = - signed t n k := by
  unfold signed; cases t <;> simp
theorem wh_sub {x y : Fl} {a b : Int} (hx : Wh x a) (hy : Wh y b) (h : (a - b).natAbs < 9007199254740992) : Wh (fsub x y) (a - b) := by
  obtain ⟨c, s, m, i, E, rfl, wc, rc, hi, hv⟩ := hx
  obtain ⟨d, t, n, j, F, rfl, wd, rd, hj, hw⟩ := hy
  show Wh ((((Ieee.double.read c).sum (Ieee.double.read d).opposite)).map Ieee.double.write) _
  rw [rc, rd]
  have hw' : signed (!t) n (j + F).toNat = (-b) * 2 ^ F := by rw [signed_not, hw, Int.neg_mul]
  have := wh_sum (a := a) (b := -b) hi hv hj hw' (by rw [<- Int.sub_eq_add_neg]; exact h)
  rw [<- Int.sub_eq_add_neg] at this
  exact this
theorem read_neg {b : Nat} (hb : W64 b) {s : Bool} {m : Nat} {i : Int} (h : Ieee.double.read b = .number s m i) : Ieee.double.read (Op.negFloat .f64 b) = .number (!s) m i /\ W64 (Op.negFloat .f64 b) := by
  have p63 : (2 : Nat) ^ 63 = 9223372036854775808 := by decide
  have e : Op.negFloat .f64 b = b ^^^ 2 ^ 63 := rfl
  have h1 : (b ^^^ 2 ^ 63) % 2 ^ 63 = b % 2 ^ 63 := by rw [Nat.xor_mod_two_pow, Nat.mod_self, Nat.xor_zero]
  have h2 : (b ^^^ 2 ^ 63) / 2 ^ 63 = (b / 2 ^ 63) ^^^ 1 := by rw [Nat.xor_div_two_pow, Nat.div_self (by decide)]
  have h3 : b ^^^ 2 ^ 63 < 2 ^ 64 := Nat.xor_lt_two_pow (by have := hb; omega) (by decide)
  rw [e]
  generalize b ^^^ 2 ^ 63 = c at *
  rw [p63] at h1 h2
  have hw : W64 c := h3
  refine ⟨?_, hw⟩
  have h4 : (c / 9223372036854775808 % 2 == 1) = !(b / 9223372036854775808 % 2 == 1) := by
    rw [h2]
    have : b / 9223372036854775808 = 0 \/ b / 9223372036854775808 = 1 := by omega
    rcases this with h | h <;> rw [h] <;> rfl
  unfold Format.read at h ⊢
  simp only [signWeight_d, binade_d, infRung_d, leastPlace_d] at h ⊢
  rw [h1, h4]
  split at h
  · rename_i g; rw [if_pos g]; cases h; rfl
  · rename_i g; rw [if_neg g]
    split at h
    · rename_i g2; rw [if_pos g2]; cases h; rfl
    · split at h <;> cases h
theorem wh_neg {x : Fl} {a : Int} (hx : Wh x a) : Wh (fneg x) (-a) := by
  obtain ⟨c, s, m, i, E, rfl, wc, rc, hi, hv⟩ := hx
  obtain ⟨h1, h2⟩ := read_neg wc rc
  exact ⟨_, _, _, _, E, rfl, h2, h1, hi, by rw [signed_not, hv, Int.neg_mul]⟩
theorem wh_int {n : Int} (h : n.natAbs < 9007199254740992) : Wh (some (FloatKind.nearest .f64 n)) n := by
  obtain ⟨sg, e, hs⟩ : ∃ sg, FloatKind.nearest .f64 n = Ieee.double.nearest sg n.natAbs 0 /\ sg = decide (n < 0) := ⟨_, rfl, by congr⟩
  rw [e, hs]
  refine wh_of (E := 0) (by decide) ?_ h (fun _ => rfl)
  · unfold signed
    rw [show ((0 : Int) + ((0 : Nat) : Int)).toNat = 0 from rfl, Nat.shiftLeft_zero]
    by_cases hl : n < 0
    · rw [if_pos (decide_eq_true hl)]; omega
    · rw [if_neg (by rw [decide_eq_false hl]; decide)]; omega
theorem wh_fin {x : Fl} {a : Int} (hx : Wh x a) : finF x = true := by
  obtain ⟨c, s, m, i, E, rfl, wc, rc, hi, hv⟩ := hx
  exact finF_of rc
theorem wh_FW {x : Fl} {a : Int} (hx : Wh x a) : FW x := by
  obtain ⟨c, s, m, i, E, rfl, wc, rc, hi, hv⟩ := hx
  intro b h; cases h; exact wc
end Go.Mach
end
