/-
  LDEXP AND FREXP of the library: the nearest word, and a power that is not far.
  Conditions: finite numbers; powers up to 5000.
-/
import Derived.Test.YtldpkhfffeddiaaGreatBig
import Derived.Test.YtldpkhfffeddiaaGreatFlA
section
namespace Go.Proofs.YtldpkhfffeddiaaGreat
open Go Go.Mach Ieee
set_option linter.unusedVariables false

/-! ### what is compared with a positive number's word -/
theorem flt_w (a b : Nat) : flt (some a) (some b) = ((Ieee.double.read a).order (Ieee.double.read b) == some .lt) := rfl
theorem feq_w (a b : Nat) : feq (some a) (some b) = ((Ieee.double.read a).order (Ieee.double.read b) == some .eq) := rfl
theorem fgt_w (a b : Nat) : fgt (some a) (some b) = ((Ieee.double.read a).order (Ieee.double.read b) == some .gt) := rfl
theorem fmul_w (a b : Nat) : fmul (some a) (some b) = ((Ieee.double.read a).product (Ieee.double.read b)).map Ieee.double.write := rfl
theorem absF_num {b : Nat} (hb : W64 b) {s : Bool} {m : Nat} {i : Int} (h : Ieee.double.read b = .number s m i) : ∃ c, absF (some b) = some c ∧ W64 c ∧ Ieee.double.read c = .number false m i := by
  have e : Ieee.double.read (b % 9223372036854775808) = .number false m i := by
    obtain ⟨hs, hlt, h⟩ := read_number h
    unfold Format.read
    simp only [signWeight_d, binade_d, infRung_d, leastPlace_d]
    have e1 : b % 9223372036854775808 % 9223372036854775808 = b % 9223372036854775808 := by omega
    have e2 : (b % 9223372036854775808 / 9223372036854775808 % 2 == 1) = false := by
      rw [beq_eq_false_iff_ne]; omega
    rw [e1, e2]
    rcases h with ⟨h1, rfl, rfl⟩ | ⟨h1, rfl, rfl⟩
    · rw [if_pos h1]
    · rw [if_neg (by omega), if_pos hlt]
  have hn : isNaN (b % 9223372036854775808) = false := by unfold isNaN; rw [e]; rfl
  refine ⟨b % 9223372036854775808, ?_, by unfold W64 at *; omega, e⟩
  show canon _ = _
  unfold canon; rw [hn]; rfl
theorem read_two52 : Ieee.double.read 4841369599423283200 = .number false 4503599627370496 0 := by decide
theorem read_least : Ieee.double.read 4503599627370496 = .number false 4503599627370496 (-1074) := by decide
theorem read_tiny53 : Ieee.double.read 4368491638549381120 = .number false 4503599627370496 (-105) := by decide
theorem flt_least {c : Nat} {m : Nat} {i : Int} (h : Ieee.double.read c = .number false m i) : flt (some c) (some 4503599627370496) = decide (m < 4503599627370496 ∧ i = -1074) := by
  have hg := place_ge h
  have hr := read_number h
  rw [flt_w, h, read_least]
  simp only [Datum.order]
  have hmin : min i (-1074) = -1074 := by omega
  have e0 : (-1074 - -1074 : Int).toNat = 0 := by decide
  rw [hmin, e0]
  have s1 : signed false m (i - -1074).toNat = ((m <<< (i - -1074).toNat : Nat) : Int) := rfl
  have s2 : signed false 4503599627370496 0 = ((4503599627370496 : Nat) : Int) := rfl
  rw [s1, s2, Nat.shiftLeft_eq]
  have hp : 0 < 2 ^ (i - -1074).toNat := Nat.two_pow_pos _
  have hle : m ≤ m * 2 ^ (i - -1074).toNat := Nat.le_mul_of_pos_right m hp
  by_cases hc : m < 4503599627370496 ∧ i = -1074
  · rw [decide_eq_true hc]
    obtain ⟨h1, rfl⟩ := hc
    rw [e0, Nat.pow_zero, Nat.mul_one]
    have : compare (m : Int) ((4503599627370496 : Nat) : Int) = .lt := Int.compare_eq_lt.2 (by omega)
    rw [this]; rfl
  · rw [decide_eq_false hc]
    have hm : 4503599627370496 ≤ m := by
      rcases hr.2.2 with ⟨h1, rfl, rfl⟩ | ⟨h1, rfl, rfl⟩
      · omega
      · omega
    generalize m * 2 ^ (i - -1074).toNat = q at hle
    have : compare (q : Int) ((4503599627370496 : Nat) : Int) ≠ .lt := fun e => by
      have := Int.compare_eq_lt.1 e; omega
    cases e : compare (q : Int) ((4503599627370496 : Nat) : Int) with
    | lt => exact absurd e this
    | eq => rfl
    | gt => rfl

/-- a number that is not nought, made normal -/
theorem law_normalize (N : Nat) {b : Nat} (hb : W64 b) {s : Bool} {m : Nat} {i : Int} (h : Ieee.double.read b = .number s m i) (h0 : m ≠ 0) :
    ∃ b' M P adj, (∀ κ : Fl → Int → Bool, s_q22 N (some b) κ = κ (some b') adj) ∧ W64 b' ∧ Ieee.double.read b' = .number s M P ∧ 4503599627370496 ≤ M ∧ M < 9007199254740992 ∧ -1074 ≤ P ∧ P ≤ 971 ∧ -52 ≤ adj ∧ (adj ≤ 0 ∧ P + adj = i + m.log2 - 52) ∧ ∀ k, Ieee.double.nearest s M (P + adj + k) = Ieee.double.nearest s m (i + k) := by
  obtain ⟨c, hc, hcw, hcr⟩ := absF_num hb h
  have hp := place_le h
  have hg := place_ge h
  have hr := read_number h
  by_cases hd : m < 4503599627370496 ∧ i = -1074
  · obtain ⟨h1, rfl⟩ := hd
    have hl : m.log2 < 52 := (Nat.log2_lt h0).2 (by simpa using h1)
    obtain ⟨hM1, hM2⟩ := lift52 h0 hp.2
    have hmul : fmul (some b) (some 4841369599423283200) = some (Ieee.double.nearest s (m * 4503599627370496) (-1074)) := by
      rw [fmul_w, h, read_two52]
      have e : (Datum.number s m (-1074)).product (.number false 4503599627370496 0) = some (.number (s ^^ false) (m * 4503599627370496) (-1074 + 0)) := rfl
      rw [e, Option.map_some, Bool.xor_false, Int.add_zero, write_number]
    have hn : Ieee.double.nearest s (m * 4503599627370496) (-1074) = Ieee.double.nearest s (m <<< (52 - m.log2)) (-1074 + m.log2) := by
      have := nearest_shift s (m <<< (52 - m.log2)) (-1074 + m.log2) m.log2
      rw [← Nat.shiftLeft_add, show 52 - m.log2 + m.log2 = 52 by omega] at this
      have e1 : m * 4503599627370496 = m <<< 52 := by
        have : (2 : Nat) ^ 52 = 4503599627370496 := by decide
        rw [Nat.shiftLeft_eq, this]
      have e2 : (-1074 + (m.log2 : Int)) - (m.log2 : Int) = -1074 := by omega
      rw [e2] at this
      rw [e1, this]
    have hw : Ieee.double.nearest s (m <<< (52 - m.log2)) (-1074 + m.log2) = Ieee.double.word s ((-1074 + (m.log2 : Int) + 1075).toNat * 4503599627370496 + (m <<< (52 - m.log2) - 4503599627370496)) :=
      write_read (word_W64 s (by omega)) (read_normal s _ _ ⟨hM1, hM2⟩ (by omega))
    refine ⟨Ieee.double.word s ((-1074 + (m.log2 : Int) + 1075).toNat * 4503599627370496 + (m <<< (52 - m.log2) - 4503599627370496)), m <<< (52 - m.log2), -1074 + m.log2, -52, fun κ => ?_, word_W64 s (by omega), read_normal s _ _ ⟨hM1, hM2⟩ (by omega), hM1, hM2, by omega, by omega, by omega, ⟨by omega, by omega⟩, fun k => ?_⟩
    · unfold s_q22 G_q22
      show cond (flt (absF (some b)) (some 4503599627370496)) _ _ = _
      rw [hc, flt_least hcr, decide_eq_true ⟨h1, rfl⟩, cond_true, hmul, hn, hw]
    · have e : (-1074 + (m.log2 : Int) + -52 + k) = -1074 + k - ((52 - m.log2 : Nat) : Int) := by omega
      rw [e, nearest_lift]
  · have hm : 4503599627370496 ≤ m := by
      rcases hr.2.2 with ⟨h1, rfl, rfl⟩ | ⟨h1, rfl, rfl⟩
      · omega
      · omega
    refine ⟨b, m, i, 0, fun κ => ?_, hb, h, hm, hp.2, hg, hp.1, by omega, ⟨by omega, by rw [log2_normal ⟨hm, hp.2⟩]; omega⟩, fun k => by rw [Int.add_zero]⟩
    unfold s_q22 G_q22
    show cond (flt (absF (some b)) (some 4503599627370496)) _ _ = _
    rw [hc, flt_least hcr, decide_eq_false hd, cond_false]

/-! ### the first questions -/
theorem feq_zero {b : Nat} {s : Bool} {m : Nat} {i : Int} (h : Ieee.double.read b = .number s m i) : feq (some b) (some 0) = decide (m = 0) := by
  rw [feq_w, h, read_zero]
  simp only [Datum.order, signed_zero]
  by_cases h0 : m = 0
  · subst h0; rw [signed_zero]; rfl
  · rw [decide_eq_false h0]
    have hp : m <<< (i - min i (-1074)).toNat ≠ 0 := by
      rw [Nat.shiftLeft_eq]
      exact Nat.mul_ne_zero h0 (Nat.ne_of_gt (Nat.two_pow_pos _))
    have hne : signed s m (i - min i (-1074)).toNat ≠ 0 := by
      unfold signed
      generalize m <<< (i - min i (-1074)).toNat = q at hp
      cases s <;> simp <;> omega
    cases e : compare (signed s m (i - min i (-1074)).toNat) 0 with
    | lt => rfl
    | gt => rfl
    | eq => exact absurd (Int.compare_eq_eq.1 e) hne
theorem law_IsNaN (N : Nat) (x : Fl) (k : Bool → Bool) : s_q84 N x k = k (!feq x x) := rfl
theorem law_IsInf_fin (N : Nat) {x : Fl} (hx : finF x = true) (hw : FW x) (k : Bool → Bool) : s_q64 N x 0 k = k false := by
  obtain ⟨b, s, m, i, rfl, h⟩ := finF_num hx
  obtain ⟨c, hc, hcw, hcr⟩ := absF_num (hw b rfl) h
  have hp := place_le hcr
  have hg := place_ge hcr
  unfold s_q64 G_q64
  show k (fgt (absF (some b)) (some 9218868437227405311)) = _
  rw [hc]
  congr 1
  have hr : Ieee.double.read 9218868437227405311 = .number false 9007199254740991 971 := by decide
  rw [fgt_w, hcr, hr]
  simp only [Datum.order]
  have hmin : min i 971 = i := by omega
  have e0 : (i - i).toNat = 0 := by omega
  rw [hmin, e0]
  have s1 : signed false m 0 = ((m : Nat) : Int) := rfl
  have s2 : signed false 9007199254740991 (971 - i).toNat = ((9007199254740991 <<< (971 - i).toNat : Nat) : Int) := rfl
  rw [s1, s2, Nat.shiftLeft_eq]
  have hpw : 0 < 2 ^ (971 - i).toNat := Nat.two_pow_pos _
  have hle : 9007199254740991 ≤ 9007199254740991 * 2 ^ (971 - i).toNat := Nat.le_mul_of_pos_right _ hpw
  generalize 9007199254740991 * 2 ^ (971 - i).toNat = q at hle
  have : compare (m : Int) (q : Int) ≠ .gt := fun e => by
    have := Int.compare_eq_gt.1 e; omega
  cases e : compare (m : Int) (q : Int) with
  | gt => exact absurd e this
  | eq => rfl
  | lt => rfl

/-! ### Frexp -/
theorem expo {b : Nat} (hb : W64 b) {s : Bool} {M : Nat} {P : Int} (h : Ieee.double.read b = .number s M P) (hM : 4503599627370496 ≤ M) : ((b / 4503599627370496 % 2048 : Nat) : Int) = P + 1075 := by
  obtain ⟨-, hlt, h⟩ := read_number h
  rcases h with ⟨h1, rfl, rfl⟩ | ⟨h1, rfl, rfl⟩
  · omega
  · omega
theorem law_frexp (N : Nat) {x : Fl} (hx : finF x = true) (hw : FW x) (h0 : feq x (some 0) = false) : ∃ fr e, (∀ κ : Fl → Int → Bool, s_q41 N x κ = κ fr e) ∧ -1200 ≤ e ∧ e ≤ 1200 ∧ ∀ b s m i, x = some b → Ieee.double.read b = .number s m i → e = i + m.log2 + 1 := by
  obtain ⟨b, s, m, i, rfl, h⟩ := finF_num hx
  have hb := hw b rfl
  have hm : m ≠ 0 := by
    rw [feq_zero h] at h0
    exact of_decide_eq_false h0
  obtain ⟨b', M, P, adj, h1, h2, h3, h4, h5, h6, h7, h8, h9, h10⟩ := law_normalize N hb h hm
  have he := expo h2 h3 h4
  refine ⟨canon (Int.toNat (bitsN .or .u64 (bitsN .andNot .u64 (b' : Int) 9218868437227405312) 4602678819172646912)), adj + (P + 1075 - 1023 + 1), fun κ => ?_, by omega, by omega, fun b2 s2 m2 i2 hx2 hr2 => by cases hx2; rw [h] at hr2; cases hr2; omega⟩
  · unfold s_q41 G_q41 s_q115 G_q115
    rw [h0, cond_false, law_IsInf_fin N hx hw]
    dsimp only
    rw [show ((false : Bool) == false) = true from rfl, cond_true, law_IsNaN, feq_refl hx, Bool.not_true, cond_false, h1]
    have e : s_q48 N (some b') = fun k => k (b' : Int) := rfl
    rw [e]
    dsimp only
    rw [fdiv52, and11, he, and_tr (fits_ok (by omega) (by omega)), and_tr (fits_ok (by omega) (by omega)), and_tr (fits_ok (by omega) (by omega)), and_tr (fits_ok (by omega) (by omega))]
    rfl

/-! ### Ldexp -/
theorem and11_i (n : Nat) (h : n < 4096) : bitsN .and .i64 (n : Int) 2047 = ((n % 2048 : Nat) : Int) := by
  unfold bitsN bitsI
  simp only [Option.getD_some]
  have h2047 : (2047 : Int) = ((2 ^ 11 - 1 : Nat) : Int) := by simp
  rw [h2047]
  have e : ((BitVec.ofInt (IntKind.bits .i64) (n : Int)) &&& (BitVec.ofInt (IntKind.bits .i64) ((2 ^ 11 - 1 : Nat) : Int))).toNat = n % 2048 := by
    show ((BitVec.ofInt 64 (n : Int)) &&& (BitVec.ofInt 64 ((2 ^ 11 - 1 : Nat) : Int))).toNat = n % 2 ^ 11
    rw [BitVec.toNat_and, BitVec.ofInt_natCast, BitVec.ofInt_natCast, BitVec.toNat_ofNat, BitVec.toNat_ofNat, Nat.mod_eq_of_lt (a := 2 ^ 11 - 1) (by decide), Nat.and_two_pow_sub_one_eq_mod, Nat.mod_mod_of_dvd]
    exact Nat.pow_dvd_pow 2 (by decide)
  rw [e]
  have hw : ∀ z : Nat, z < 4096 → IntKind.wrap .i64 (z : Int) = z := fun z hz => by
    unfold IntKind.wrap
    have h1 : IntKind.signed .i64 = true := rfl
    have h2 : IntKind.bits .i64 = 64 := rfl
    have h3 : (2 : Int) ^ 64 = 18446744073709551616 := by decide
    have h4 : (2 : Int) ^ (64 - 1) = 9223372036854775808 := by decide
    simp only [h1, h2, h3, h4, Bool.true_and, decide_eq_true_eq]
    split <;> omega
  rw [hw _ (by omega)]
theorem flt_zero {b : Nat} {s : Bool} {m : Nat} {i : Int} (h : Ieee.double.read b = .number s m i) (h0 : m ≠ 0) : flt (some b) (some 0) = s := by
  rw [flt_w, h, read_zero]
  simp only [Datum.order, signed_zero]
  have hp : m <<< (i - min i (-1074)).toNat ≠ 0 := by
    rw [Nat.shiftLeft_eq]
    exact Nat.mul_ne_zero h0 (Nat.ne_of_gt (Nat.two_pow_pos _))
  cases s with
  | true =>
    have : signed true m (i - min i (-1074)).toNat < 0 := by
      show -((m <<< (i - min i (-1074)).toNat : Nat) : Int) < 0
      generalize m <<< (i - min i (-1074)).toNat = q at hp
      omega
    rw [Int.compare_eq_lt.2 this]; rfl
  | false =>
    have : 0 < signed false m (i - min i (-1074)).toNat := by
      show 0 < ((m <<< (i - min i (-1074)).toNat : Nat) : Int)
      generalize m <<< (i - min i (-1074)).toNat = q at hp
      omega
    rw [Int.compare_eq_gt.2 this]; rfl
theorem num_sign {b : Nat} (hb : W64 b) {s : Bool} {m : Nat} {i : Int} (h : Ieee.double.read b = .number s m i) : b / 9223372036854775808 * 9223372036854775808 = Ieee.double.word s 0 := by
  obtain ⟨rfl, -, -⟩ := read_number h
  unfold Format.word; rw [signWeight_d]
  unfold W64 at hb
  by_cases h1 : b / 9223372036854775808 % 2 = 1
  · rw [h1]; simp; omega
  · rw [show (b / 9223372036854775808 % 2 == 1) = false by rw [beq_eq_false_iff_ne]; exact h1]; simp; omega
theorem copysign_zero (N : Nat) {b : Nat} (hb : W64 b) {s : Bool} {m : Nat} {i : Int} (h : Ieee.double.read b = .number s m i) (κ : Fl → Bool) : s_q58 N (some 0) (some b) κ = κ (some (Ieee.double.word s 0)) := by
  unfold s_q58 G_q58
  have e0 : s_q48 N (some 0) = fun k => k ((0 : Nat) : Int) := rfl
  have e1 : s_q48 N (some b) = fun k => k (b : Int) := rfl
  rw [e0, e1]
  dsimp only
  have hand : bitsN .and .u64 (b : Int) 9223372036854775808 = ((b / 9223372036854775808 * 9223372036854775808 : Nat) : Int) := by
    unfold bitsN bitsI
    simp only [Option.getD_some]
    unfold W64 at hb
    have e : ((BitVec.ofInt (IntKind.bits .u64) (b : Int)) &&& (BitVec.ofInt (IntKind.bits .u64) (9223372036854775808 : Int))).toNat = b / 9223372036854775808 * 9223372036854775808 := by
      show ((BitVec.ofInt 64 (b : Int)) &&& (BitVec.ofInt 64 ((2 ^ 63 : Nat) : Int))).toNat = _
      have h64 : (2 : Nat) ^ 64 = 18446744073709551616 := by decide
      have h63 : (2 : Nat) ^ 63 = 9223372036854775808 := by decide
      rw [BitVec.toNat_and, BitVec.ofInt_natCast, BitVec.ofInt_natCast, BitVec.toNat_ofNat, BitVec.toNat_ofNat, Nat.mod_eq_of_lt (by omega), Nat.mod_eq_of_lt (a := 2 ^ 63) (by decide)]
      have hq : b / 9223372036854775808 = 0 ∨ b / 9223372036854775808 = 1 := by omega
      have ht := Nat.testBit_eq_decide_div_mod_eq (x := b) (i := 63)
      rw [h63] at ht
      rcases hq with hq | hq
      · rw [hq, Nat.zero_mul]
        rw [hq] at ht
        apply Nat.eq_of_testBit_eq
        intro j
        rw [Nat.testBit_and, Nat.testBit_two_pow, Nat.zero_testBit]
        by_cases hj : 63 = j
        · subst hj; rw [ht]; rfl
        · rw [decide_eq_false hj, Bool.and_false]
      · rw [hq, Nat.one_mul, ← h63]
        rw [hq] at ht
        apply Nat.eq_of_testBit_eq
        intro j
        rw [Nat.testBit_and, Nat.testBit_two_pow]
        by_cases hj : 63 = j
        · subst hj; rw [ht]; rfl
        · rw [decide_eq_false hj, Bool.and_false]
    rw [e, wrap_u64 _ (by omega)]
  have h00 : bitsN .andNot .u64 ((0 : Nat) : Int) 9223372036854775808 = 0 := by rw [bitsN_andNot_top]; rfl
  rw [hand, h00, num_sign hb h, or0 _ (word_W64 s (by decide))]
  show κ (canon (Int.toNat ((Ieee.double.word s 0 : Nat) : Int))) = _
  rw [Int.toNat_natCast]
  congr 1
  cases s <;> decide

theorem law_Inf_neg (N : Nat) (κ : Fl → Bool) : s_m_Inf N (-1) κ = κ (some 18442240474082181120) := by
  unfold s_m_Inf G_m_Inf
  rw [decide_eq_false (by decide), cond_false]
  show κ (canon 18442240474082181120) = _
  congr 1
theorem law_Inf_pos (N : Nat) (κ : Fl → Bool) : s_m_Inf N 1 κ = κ (some 9218868437227405312) := by
  unfold s_m_Inf G_m_Inf
  rw [decide_eq_true (by decide), cond_true]
  show κ (canon 9218868437227405312) = _
  congr 1
theorem word_inf (s : Bool) : Ieee.double.word s 9218868437227405312 = cond s 18442240474082181120 9218868437227405312 := by cases s <;> decide
theorem or_swap (a b : Nat) (ha : a < 9223372036854775808) (hb : b < 9223372036854775808) : bitsN .or .u64 (bitsN .or .u64 (a : Int) 9223372036854775808) (b : Int) = bitsN .or .u64 (bitsN .or .u64 (a : Int) (b : Int)) 9223372036854775808 := by
  have hor : ∀ u v : Nat, u < 18446744073709551616 → v < 18446744073709551616 → bitsN .or .u64 (u : Int) (v : Int) = ((u ||| v : Nat) : Int) := fun u v hu hv => by
    unfold bitsN bitsI
    simp only [Option.getD_some]
    have h64 : (2 : Nat) ^ 64 = 18446744073709551616 := by decide
    have e : ((BitVec.ofInt (IntKind.bits .u64) (u : Int)) ||| (BitVec.ofInt (IntKind.bits .u64) (v : Int))).toNat = u ||| v := by
      show ((BitVec.ofInt 64 (u : Int)) ||| (BitVec.ofInt 64 (v : Int))).toNat = _
      rw [BitVec.toNat_or, BitVec.ofInt_natCast, BitVec.ofInt_natCast, BitVec.toNat_ofNat, BitVec.toNat_ofNat, Nat.mod_eq_of_lt (by omega), Nat.mod_eq_of_lt (by omega)]
    rw [e, wrap_u64 _ (by
      have := Nat.or_lt_two_pow (n := 64) (x := u) (y := v) (by omega) (by omega)
      omega)]
  have h64 : (2 : Nat) ^ 64 = 18446744073709551616 := by decide
  have o1 := Nat.or_lt_two_pow (n := 64) (x := a) (y := 9223372036854775808) (by omega) (by omega)
  have o2 := Nat.or_lt_two_pow (n := 64) (x := a) (y := b) (by omega) (by omega)
  have c : (9223372036854775808 : Int) = ((9223372036854775808 : Nat) : Int) := rfl
  rw [c, hor a _ (by omega) (by decide), hor _ b (by omega) (by omega), hor a b (by omega) (by omega), hor _ _ (by omega) (by decide), Nat.or_assoc, Nat.or_assoc, Nat.or_comm b]
/-- the exponent field put in -/
theorem law_lay {b : Nat} (hb : W64 b) {s : Bool} {M : Nat} {P : Int} (h : Ieee.double.read b = .number s M P) (hM : 4503599627370496 ≤ M) {E : Int} (h1 : 0 < E) (h2 : E < 2047) :
    bitsN .or .u64 (bitsN .andNot .u64 (b : Int) 9218868437227405312) (IntKind.wrap .u64 ((IntKind.wrap .u64 E) * 2 ^ 52)) = ((Ieee.double.word s (E.toNat * 4503599627370496 + (M - 4503599627370496)) : Nat) : Int) := by
  have hs := num_sign hb h
  obtain ⟨hsg, hlt, hr⟩ := read_number h
  have hf : M - 4503599627370496 = b % 4503599627370496 := by
    rcases hr with ⟨h1, rfl, rfl⟩ | ⟨h1, rfl, rfl⟩
    · omega
    · omega
  obtain ⟨e, rfl⟩ : ∃ e : Nat, E = e := ⟨E.toNat, by omega⟩
  have e1 : IntKind.wrap .u64 (IntKind.wrap .u64 (e : Int) * 2 ^ 52) = ((2 ^ 52 * e : Nat) : Int) := by
    rw [wrap_u64 e (by omega), wrap64]
    have h3 : (2 : Int) ^ 52 = 4503599627370496 := by decide
    have h4 : (2 : Nat) ^ 52 = 4503599627370496 := by decide
    rw [h3, h4]; omega
  rw [e1, andNot_mid hb, hs, hf, Int.toNat_natCast]
  have p52 : (2 : Nat) ^ 52 = 4503599627370496 := by decide
  cases s with
  | false =>
    have w0 : Ieee.double.word false 0 = 0 := by decide
    rw [w0, Nat.zero_add, bitsN_or_disj64 _ e 52 (by rw [p52]; omega) (by rw [p52]; omega), p52]
    unfold Format.word
    simp only [Bool.false_eq_true, if_false]
    rw [Nat.mul_comm 4503599627370496 e]
  | true =>
    have w0 : Ieee.double.word true 0 = 9223372036854775808 := by decide
    rw [w0]
    have hsplit : bitsN .or .u64 ((9223372036854775808 + b % 4503599627370496 : Nat) : Int) ((2 ^ 52 * e : Nat) : Int) = ((9223372036854775808 + (2 ^ 52 * e + b % 4503599627370496) : Nat) : Int) := by
      rw [← orTop (b % 4503599627370496) (by omega), ← orTop (2 ^ 52 * e + b % 4503599627370496) (by rw [p52]; omega), ← bitsN_or_disj64 (b % 4503599627370496) e 52 (by rw [p52]; omega) (by rw [p52]; omega)]
      exact or_swap _ _ (by omega) (by rw [p52]; omega)
    rw [hsplit]
    unfold Format.word
    rw [signWeight_d]
    simp only [if_true]
    rw [p52, Nat.mul_comm 4503599627370496 e]
theorem law_Ldexp (N : Nat) {x : Fl} (hx : finF x = true) (hw : FW x) {k : Int} (hk1 : -5000 ≤ k) (hk2 : k ≤ 5000) (κ : Fl → Bool) : s_q59 N x k κ = κ (sclF x k) := by
  obtain ⟨b, s, m, i, rfl, h⟩ := finF_num hx
  have hb := hw b rfl
  rw [sclF_num h]
  unfold s_q59 G_q59 s_q112 G_q112
  rw [feq_zero h]
  by_cases h0 : m = 0
  · subst h0
    rw [decide_eq_true rfl, cond_true, nearest_zero, mag0_word hb h]
  · rw [decide_eq_false h0, cond_false, law_IsInf_fin N hx hw]
    dsimp only
    rw [show ((false : Bool) == false) = true from rfl, cond_true, law_IsNaN, feq_refl hx, Bool.not_true, cond_false]
    obtain ⟨b', M, P, adj, h1, h2, h3, h4, h5, h6, h7, h8, h9, h10⟩ := law_normalize N hb h h0
    have he := expo h2 h3 h4
    have hM0 : M ≠ 0 := by omega
    have hP : (P + adj + k) = P + adj + k := rfl
    rw [h1, ← h10 k]
    have e0 : s_q48 N (some b') = fun k => k (b' : Int) := rfl
    rw [e0]
    dsimp only
    have hb' : b' < 18446744073709551616 := h2
    rw [and_tr (fits_ok (by omega) (by omega)), fdiv52, and_tr (fits_ok (by omega) (by omega)), and11_i _ (by omega), he, and_tr (fits_ok (by omega) (by omega)), and_tr (fits_ok (by omega) (by omega))]
    have e1 : k + adj + (P + 1075 - 1023) = P + adj + k + 52 := by omega
    rw [e1]
    generalize hQ : P + adj + k = Q
    by_cases c1 : Q + 52 < -1075
    · rw [decide_eq_true c1, cond_true, copysign_zero N h2 h3, nearest_tiny s ⟨h4, h5⟩ (by omega)]
    · rw [decide_eq_false c1, cond_false]
      by_cases c2 : Q + 52 > 1023
      · rw [decide_eq_true c2, cond_true, flt_zero h3 hM0, nearest_huge s ⟨h4, h5⟩ (by omega), word_inf]
        cases s
        · rw [cond_false, law_Inf_pos]; rfl
        · rw [cond_true, law_Inf_neg]; rfl
      · rw [decide_eq_false c2, cond_false]
        have hjump : ∀ (E : Int) (c : Nat) , 0 < E + 1023 → E + 1023 < 2047 → fits .i64 (E + 1023) = true := fun E c a1 a2 => fits_ok (by omega) (by omega)
        by_cases c3 : Q + 52 < -1022
        · rw [decide_eq_true c3, cond_true, and_tr (fits_ok (by omega) (by omega))]
          unfold J_q143
          rw [and_tr (fits_ok (by omega) (by omega)), law_lay h2 h3 h4 (by omega) (by omega)]
          show κ (fmul _ (canon (Int.toNat ((_ : Nat) : Int)))) = _
          rw [Int.toNat_natCast]
          have hE : (Q + 52 + 53 + 1023) = (Q + 53) + 1075 := by omega
          rw [hE]
          have hrd := read_normal s M (Q + 53) ⟨h4, h5⟩ (by omega)
          have hcn : canon (Ieee.double.word s ((Q + 53 + 1075).toNat * 4503599627370496 + (M - 4503599627370496))) = some (Ieee.double.word s ((Q + 53 + 1075).toNat * 4503599627370496 + (M - 4503599627370496))) := by
            have hn : isNaN (Ieee.double.word s ((Q + 53 + 1075).toNat * 4503599627370496 + (M - 4503599627370496))) = false := by unfold isNaN; rw [hrd]; rfl
            unfold canon; rw [hn]; rfl
          rw [hcn, fmul_w, read_tiny53, hrd]
          have e : (Datum.number false 4503599627370496 (-105)).product (.number s M (Q + 53)) = some (.number (false ^^ s) (4503599627370496 * M) (-105 + (Q + 53))) := rfl
          rw [e, Option.map_some, Bool.false_xor, write_number]
          have e5 : 4503599627370496 * M = M <<< 52 := by
            have : (2 : Nat) ^ 52 = 4503599627370496 := by decide
            rw [Nat.shiftLeft_eq, this, Nat.mul_comm]
          have e6 : (-105 + (Q + 53)) = Q - ((52 : Nat) : Int) := by omega
          rw [e5, e6, nearest_shift]
        · rw [decide_eq_false c3, cond_false]
          unfold J_q143
          rw [and_tr (fits_ok (by omega) (by omega)), law_lay h2 h3 h4 (by omega) (by omega)]
          show κ (fmul _ (canon (Int.toNat ((_ : Nat) : Int)))) = _
          rw [Int.toNat_natCast]
          have hE : (Q + 52 + 1023) = Q + 1075 := by omega
          rw [hE]
          have hrd := read_normal s M Q ⟨h4, h5⟩ (by omega)
          have hW : W64 (Ieee.double.word s ((Q + 1075).toNat * 4503599627370496 + (M - 4503599627370496))) := word_W64 s (by omega)
          have hcn : canon (Ieee.double.word s ((Q + 1075).toNat * 4503599627370496 + (M - 4503599627370496))) = some (Ieee.double.word s ((Q + 1075).toNat * 4503599627370496 + (M - 4503599627370496))) := by
            have hn : isNaN (Ieee.double.word s ((Q + 1075).toNat * 4503599627370496 + (M - 4503599627370496))) = false := by unfold isNaN; rw [hrd]; rfl
            unfold canon; rw [hn]; rfl
          rw [hcn, write_read hW hrd, one_fmul (fun c hc => by cases hc; exact hW) (finF_of hrd)]
end Go.Proofs.YtldpkhfffeddiaaGreat
end
section
namespace Go.Proofs.YtldpkhfffeddiaaGreat
open Go Go.Mach Ieee
set_option linter.unusedVariables false

theorem write_W64 (d : Datum) : W64 (Ieee.double.write d) := by
  cases d with
  | number s m i => exact nearest_W64 s m i
  | infinity s =>
    have : Ieee.double.write (.infinity s) = Ieee.double.word s 9218868437227405312 := by rw [← infRung_d]; rfl
    rw [this]; exact word_W64 s (by decide)
  | nan s f =>
    have : Ieee.double.write (.nan s f) = Ieee.double.word s (9218868437227405312 + f % 4503599627370496) := by rw [← infRung_d, ← binade_d]; rfl
    rw [this]; exact word_W64 s (by omega)
theorem map_W64 {o : Option Datum} : FW (o.map Ieee.double.write) := by
  intro b hb
  cases o with
  | none => cases hb
  | some d => cases hb; exact write_W64 d
theorem FW_bin {f : Nat → Nat → Option Nat} (hf : ∀ a b c, f a b = some c → W64 c) (x y : Fl) : FW (fbin f x y) := by
  intro c hc
  cases x with
  | none => cases hc
  | some a => cases y with
    | none => cases hc
    | some b => exact hf a b c hc
theorem FW_fadd (x y : Fl) : FW (fadd x y) := FW_bin (fun a b c h => map_W64 c h) x y
theorem FW_fsub (x y : Fl) : FW (fsub x y) := FW_bin (fun a b c h => map_W64 c h) x y
theorem FW_fmul (x y : Fl) : FW (fmul x y) := FW_bin (fun a b c h => map_W64 c h) x y
theorem FW_fdiv (x y : Fl) : FW (fdiv x y) := FW_bin (fun a b c h => map_W64 c h) x y
theorem FW_zero : FW (some 0) := fun b h => by cases h; decide
theorem FW_sclF {x : Fl} (hw : FW x) (k : Int) : FW (sclF x k) := by
  intro c hc
  cases x with
  | none => cases hc
  | some b =>
    unfold sclF at hc
    cases e : Ieee.double.read b with
    | number s m i => simp only [e] at hc; cases hc; exact nearest_W64 s m _
    | infinity s => simp only [e] at hc; cases hc; exact hw _ rfl
    | nan s f => simp only [e] at hc; cases hc; exact hw _ rfl
theorem FW_absF {x : Fl} : FW (absF x) := by
  cases x with
  | none => intro c h; cases h
  | some d => exact canon_FW (n := d % 9223372036854775808) (by unfold W64; omega)

/-! ### sums in either order -/
theorem sum_comm (d e : Datum) : d.sum e = e.sum d := by
  cases d <;> cases e <;> simp only [Datum.sum]
  · rename_i s m i t n j
    rw [Int.min_comm i j, Int.add_comm, Bool.and_comm s t]
  · rename_i s t
    by_cases h : s = t
    · subst h; rfl
    · rw [if_neg h, if_neg (fun e => h e.symm)]
theorem fadd_comm (x y : Fl) : fadd x y = fadd y x := by
  cases x with
  | none => cases y <;> rfl
  | some a => cases y with
    | none => rfl
    | some b =>
      show ((Ieee.double.read a).sum (Ieee.double.read b)).map _ = ((Ieee.double.read b).sum (Ieee.double.read a)).map _
      rw [sum_comm]

/-! ### not below nought, and no NaN -/
def NN (x : Fl) : Prop := ∃ b, x = some b ∧ W64 b ∧ ((∃ m i, Ieee.double.read b = .number false m i) ∨ Ieee.double.read b = .infinity false)
theorem NN_zero : NN (some 0) := ⟨0, rfl, by decide, .inl ⟨0, -1074, read_zero⟩⟩
theorem NN_word {r : Nat} (h : r ≤ 9218868437227405312) : NN (some (Ieee.double.word false r)) := by
  refine ⟨_, rfl, word_W64 false (by omega), ?_⟩
  rcases read_word_le false h with e | ⟨m, i, e⟩
  · exact .inr e
  · exact .inl ⟨m, i, e⟩
theorem NN_write_num (m : Nat) (i : Int) : NN (some (Ieee.double.write (.number false m i))) := by
  rw [write_number]
  obtain ⟨r, h, hr⟩ := nearest_le false m i
  rw [h]; exact NN_word hr
theorem NN_write_inf : NN (some (Ieee.double.write (.infinity false))) := by
  have : Ieee.double.write (.infinity false) = Ieee.double.word false 9218868437227405312 := by rw [← infRung_d]; rfl
  rw [this]; exact NN_word (by decide)
theorem NN_square {x : Fl} {b : Nat} (hx : x = some b) (h : (∃ s m i, Ieee.double.read b = .number s m i) ∨ ∃ s, Ieee.double.read b = .infinity s) : NN (fmul x x) := by
  subst hx
  rw [fmul_w]
  rcases h with ⟨s, m, i, e⟩ | ⟨s, e⟩
  · rw [e]
    have : (Datum.number s m i).product (.number s m i) = some (.number (s ^^ s) (m * m) (i + i)) := rfl
    rw [this, Bool.xor_self, Option.map_some]; exact NN_write_num _ _
  · rw [e]
    have : (Datum.infinity s).product (.infinity s) = some (.infinity (s ^^ s)) := rfl
    rw [this, Bool.xor_self, Option.map_some]; exact NN_write_inf
theorem NN_sclF {x : Fl} (hx : finF x = true) (k : Int) : NN (fmul (sclF x k) (sclF x k)) := by
  obtain ⟨b, s, m, i, rfl, h⟩ := finF_num hx
  rw [sclF_num h]
  refine NN_square rfl ?_
  obtain ⟨r, hr, hle⟩ := nearest_le s m (i + k)
  rw [hr]
  rcases read_word_le s hle with e | ⟨m, i, e⟩
  · exact .inr ⟨s, e⟩
  · exact .inl ⟨s, m, i, e⟩
theorem NN_fadd {x y : Fl} (hx : NN x) (hy : NN y) : NN (fadd x y) := by
  obtain ⟨a, rfl, -, ha⟩ := hx
  obtain ⟨b, rfl, -, hb⟩ := hy
  show NN (((Ieee.double.read a).sum (Ieee.double.read b)).map Ieee.double.write)
  rcases ha with ⟨m, i, ha⟩ | ha <;> rcases hb with ⟨n, j, hb⟩ | hb <;> rw [ha, hb]
  · simp only [Datum.sum, Option.map_some]
    have h1 : signed false m (i - min i j).toNat = ((m <<< (i - min i j).toNat : Nat) : Int) := rfl
    have h2 : signed false n (j - min i j).toNat = ((n <<< (j - min i j).toNat : Nat) : Int) := rfl
    rw [h1, h2]
    generalize m <<< (i - min i j).toNat = p
    generalize n <<< (j - min i j).toNat = q
    by_cases h0 : (p : Int) + q = 0
    · rw [if_pos h0]; exact NN_write_num _ _
    · rw [if_neg h0, decide_eq_false (by omega)]; exact NN_write_num _ _
  · exact NN_write_inf
  · exact NN_write_inf
  · exact NN_write_inf
theorem NN_fsqrt {x : Fl} (hx : NN x) : NN (fsqrt x) := by
  obtain ⟨a, rfl, -, ha⟩ := hx
  show NN (((Ieee.double.read a).root (Ieee.double.fractionBits + 2)).map Ieee.double.write)
  rcases ha with ⟨m, i, ha⟩ | ha <;> rw [ha]
  · simp only [Datum.root, Bool.false_eq_true, if_false]
    split
    · exact NN_write_num _ _
    · exact NN_write_num _ _
  · exact NN_write_inf
theorem zero_fadd_NN {x : Fl} (hx : NN x) : fadd (some 0) x = x := by
  rw [fadd_comm]
  obtain ⟨b, rfl, hw, h⟩ := hx
  rcases h with ⟨m, i, h⟩ | h
  · by_cases hm : m = 0
    · subst hm
      have := mag0_word hw h
      rw [this]
      exact add_zeros_w false false
    · exact add_zero_w (t := false) hw h hm
  · show ((Ieee.double.read b).sum (Ieee.double.read 0)).map Ieee.double.write = some b
    rw [h, read_zero]
    have e : (Datum.infinity false).sum (.number false 0 (-1074)) = some (.infinity false) := rfl
    rw [e, Option.map_some]
    have e2 : Ieee.double.write (.infinity false) = Ieee.double.word false 9218868437227405312 := by rw [← infRung_d]; rfl
    rw [e2]
    unfold Format.read at h
    simp only [signWeight_d, binade_d, infRung_d] at h
    unfold W64 at hw
    split at h
    · cases h
    · split at h
      · cases h
      · split at h
        · rename_i h1 h2 h3
          have hs : (b / 9223372036854775808 % 2 == 1) = false := by injection h
          have hs2 : b / 9223372036854775808 % 2 ≠ 1 := fun e => by rw [e] at hs; cases hs
          have : b = 9218868437227405312 := by omega
          rw [this]; rfl
        · cases h

/-! ### what a number is worth, in units of the least -/
def vl (x : Fl) : Int := match x with
  | some b => match Ieee.double.read b with
    | .number s m i => signed s m (i + 1074).toNat
    | _ => 0
  | none => 0
theorem vl_num {b : Nat} {s : Bool} {m : Nat} {i : Int} (h : Ieee.double.read b = .number s m i) : vl (some b) = signed s m (i + 1074).toNat := by unfold vl; simp only [h]
theorem signed_scale (s : Bool) (m a c : Nat) : signed s m (a + c) = signed s m a * 2 ^ c := by
  unfold signed
  rw [Nat.shiftLeft_add]
  generalize m <<< a = q
  have : ((q <<< c : Nat) : Int) = (q : Int) * 2 ^ c := by
    rw [Nat.shiftLeft_eq]; push_cast; rfl
  cases s
  · simp only [Bool.false_eq_true, if_false]; exact this
  · simp only [if_true]; rw [this, Int.neg_mul]
theorem compare_scale (x y : Int) (c : Nat) : compare (x * 2 ^ c) (y * 2 ^ c) = compare x y := by
  have hp : (0 : Int) < 2 ^ c := Int.pow_pos (by decide)
  rcases Int.lt_trichotomy x y with h | h | h
  · rw [Int.compare_eq_lt.2 h, Int.compare_eq_lt.2 (Int.mul_lt_mul_of_pos_right h hp)]
  · subst h; rw [Int.compare_eq_eq.2 rfl, Int.compare_eq_eq.2 rfl]
  · rw [Int.compare_eq_gt.2 h, Int.compare_eq_gt.2 (Int.mul_lt_mul_of_pos_right h hp)]
theorem ford_vl {x y : Fl} (hx : finF x = true) (hy : finF y = true) : ford x y = some (compare (vl x) (vl y)) := by
  obtain ⟨a, s, m, i, rfl, ha⟩ := finF_num hx
  obtain ⟨b, t, n, j, rfl, hb⟩ := finF_num hy
  have ga := place_ge ha
  have gb := place_ge hb
  show (Ieee.double.read a).order (Ieee.double.read b) = _
  rw [ha, hb, vl_num ha, vl_num hb]
  simp only [Datum.order]
  have e1 : (i + 1074).toNat = (i - min i j).toNat + (min i j + 1074).toNat := by omega
  have e2 : (j + 1074).toNat = (j - min i j).toNat + (min i j + 1074).toNat := by omega
  rw [e1, e2, signed_scale, signed_scale, compare_scale]
theorem feq_vl {x y : Fl} (hx : finF x = true) (hy : finF y = true) : feq x y = decide (vl x = vl y) := by
  unfold feq
  rw [ford_vl hx hy, Bool.eq_iff_iff, decide_eq_true_iff, beq_iff_eq, Option.some.injEq, Int.compare_eq_eq]
theorem fge_vl {x y : Fl} (hx : finF x = true) (hy : finF y = true) : fge x y = decide (vl y ≤ vl x) := by
  unfold fge
  rw [ford_vl hx hy, Bool.eq_iff_iff, decide_eq_true_iff, Bool.or_eq_true, beq_iff_eq, beq_iff_eq, Option.some.injEq, Option.some.injEq, Int.compare_eq_eq, Int.compare_eq_gt]
  omega
theorem fmm_vl {x y : Fl} (hx : finF x = true) (hy : finF y = true) : finF (fmm true x y) = true ∧ vl (fmm true x y) = max (vl x) (vl y) ∧ (fmm true x y = x ∨ fmm true x y = y) := by
  have ho := ford_vl hx hy
  obtain ⟨a, s, m, i, rfl, ha⟩ := finF_num hx
  obtain ⟨b, t, n, j, rfl, hb⟩ := finF_num hy
  have ho' : Ieee.double.order a b = some (compare (vl (some a)) (vl (some b))) := ho
  have e : fmm true (some a) (some b) = (match Ieee.double.order a b with
    | none => none
    | some .lt => some (cond true b a)
    | some .gt => some (cond true a b)
    | some .eq => some (cond (Ieee.double.read a).neg (cond true b a) (cond true a b))) := rfl
  rw [e, ho']
  cases hc : compare (vl (some a)) (vl (some b)) with
  | lt =>
    have := Int.compare_eq_lt.1 hc
    exact ⟨hy, by show vl (some b) = _; omega, .inr rfl⟩
  | gt =>
    have := Int.compare_eq_gt.1 hc
    exact ⟨hx, by show vl (some a) = _; omega, .inl rfl⟩
  | eq =>
    have := Int.compare_eq_eq.1 hc
    show finF (some (cond _ b a)) = true ∧ vl (some (cond _ b a)) = _ ∧ (some (cond _ b a) = some a ∨ some (cond _ b a) = some b)
    cases (Ieee.double.read a).neg
    · exact ⟨hx, by show vl (some a) = _; omega, .inl rfl⟩
    · exact ⟨hy, by show vl (some b) = _; omega, .inr rfl⟩
theorem fmm_FW {x y : Fl} (hx : finF x = true) (hy : finF y = true) (hwx : FW x) (hwy : FW y) : FW (fmm true x y) := by
  rcases (fmm_vl hx hy).2.2 with h | h <;> rw [h]
  · exact hwx
  · exact hwy
theorem absF_fin {x : Fl} (hx : finF x = true) (hw : FW x) : finF (absF x) = true := by
  obtain ⟨b, s, m, i, rfl, h⟩ := finF_num hx
  obtain ⟨c, hc, -, hr⟩ := absF_num (hw b rfl) h
  rw [hc]; exact finF_of hr
end Go.Proofs.YtldpkhfffeddiaaGreat
end
section
namespace Go.Proofs.YtldpkhfffeddiaaGreat
open Go Go.Mach Ieee
set_option linter.unusedVariables false

/-! ### the greatest magnitude -/
def mostF (xs : List Fl) : Nat → Fl
  | 0 => some 0
  | n + 1 => fmm true (mostF xs n) (absF (xs.getD n none))
def FinW (xs : List Fl) : Prop := ∀ i, i < xs.length → finF (xs.getD i none) = true ∧ FW (xs.getD i none)
theorem most_fin {xs : List Fl} (h : FinW xs) : ∀ n, n ≤ xs.length → finF (mostF xs n) = true ∧ FW (mostF xs n) := by
  intro n
  induction n with
  | zero => intro _; exact ⟨(by decide : finF (some 0) = true), FW_zero⟩
  | succ n ih =>
    intro hn
    obtain ⟨h1, h2⟩ := ih (by omega)
    obtain ⟨h3, h4⟩ := h n (by omega)
    have h5 := absF_fin h3 h4
    exact ⟨(fmm_vl h1 h5).1, fmm_FW h1 h5 h2 FW_absF⟩
theorem law_qr_power {N : Nat} {xs : List Fl} (hN : 1000 ≤ N) (hl : xs.length ≤ 48) (k : Int → Bool → Bool) :
    s_qr_power N xs k = cond (feq (mostF xs xs.length) (some 0)) (k 0 false) (s_q41 N (mostF xs xs.length) (fun _ nr => fits .i64 (nr - 1) && k (nr - 1) true)) := by
  unfold s_qr_power G_qr_power
  refine iterG_eq0 (fun n => (mostF xs n, (n : Int))) xs.length rfl (by omega) (fun i hi K => ?_) (fun K => ?_)
  · simp only [st_qr_power_0, s_m_Abs, Int.toNat_natCast]
    rw [dec_true (by omega), cond_true, and_true_of (inR_of (by omega) (by omega)), and_true_of (fits_ok (by omega) (by omega))]
    rfl
  · simp only [st_qr_power_0]
    rw [dec_false (by omega), cond_false]
theorem law_Power {N : Nat} {xs : List Fl} (hN : 1000 ≤ N) (hl : xs.length ≤ 48) (k : Int → Bool → Bool) :
    s_q65 N xs k = cond (feq (mostF xs xs.length) (some 0)) (k 0 false) (s_q41 N (mostF xs xs.length) (fun _ nr => fits .i64 (nr - 1) && k (nr - 1) true)) := by
  unfold s_q65 G_q65
  refine iterG_eq0 (fun n => (mostF xs n, (n : Int))) xs.length rfl (by omega) (fun i hi K => ?_) (fun K => ?_)
  · simp only [st_z10_Power_0, s_m_Abs, Int.toNat_natCast]
    rw [dec_true (by omega), cond_true, and_true_of (inR_of (by omega) (by omega)), and_true_of (fits_ok (by omega) (by omega))]
    rfl
  · simp only [st_z10_Power_0]
    rw [dec_false (by omega), cond_false]

/-! ### the scaled row -/
def sumSq (ys : List Fl) : Nat → Fl
  | 0 => some 0
  | n + 1 => fadd (sumSq ys n) (fmul (ys.getD n none) (ys.getD n none))
def scl (xs : List Fl) (k : Int) : List Fl := xs.map fun x => sclF x k
theorem scl_length (xs : List Fl) (k : Int) : (scl xs k).length = xs.length := by simp [scl]
theorem scl_getD (xs : List Fl) (k : Int) {i : Nat} (h : i < xs.length) : (scl xs k).getD i none = sclF (xs.getD i none) k := by
  unfold scl
  rw [List.getD_eq_getElem?_getD, List.getD_eq_getElem?_getD, List.getElem?_map, List.getElem?_eq_getElem h]
  rfl
theorem take_snoc {α : Type} (ys : List α) (d : α) {i : Nat} (hi : i < ys.length) : ys.take i ++ [ys.getD i d] = ys.take (i + 1) := by
  rw [List.getD_eq_getElem?_getD, List.getElem?_eq_getElem hi, Option.getD_some, List.take_add_one, List.getElem?_eq_getElem hi]; rfl
theorem set_take {α : Type} (ys : List α) (z d : α) {i : Nat} (hi : i < ys.length) : (ys.take i ++ List.replicate (ys.length - i) z).set i (ys.getD i d) = ys.take (i + 1) ++ List.replicate (ys.length - (i + 1)) z := by
  have h1 : (ys.take i).length = i := by rw [List.length_take]; omega
  have h2 : ys.length - i = (ys.length - (i + 1)) + 1 := by omega
  rw [List.set_append_right _ _ (by omega), h1, Nat.sub_self, h2, List.replicate_succ, List.set_cons_zero, ← take_snoc ys d hi, List.append_assoc]
  rfl
theorem law_qr_scaled {N : Nat} {xs : List Fl} (hN : 1000 ≤ N) (hl : xs.length ≤ 48) (hf : FinW xs) {e : Int} (h1 : -4000 ≤ e) (h2 : e ≤ 4000) (k : Fl → List Fl → Bool) :
    s_qr_scaled N xs e k = k (fsqrt (sumSq (scl xs (0 - e)) xs.length)) (scl xs (0 - e)) := by
  unfold s_qr_scaled G_qr_scaled
  rw [and_true_of ((mkOk_iff _ _ _).2 (by omega)), Int.toNat_natCast]
  have hlen := scl_length xs (0 - e)
  refine iterG_eq0 (fun n => (sumSq (scl xs (0 - e)) n, (n : Int), (scl xs (0 - e)).take n ++ List.replicate ((scl xs (0 - e)).length - n) (some 0))) xs.length (by rw [hlen]; rfl) (by omega) (fun i hi K => ?_) (fun K => ?_)
  · obtain ⟨h3, h4⟩ := hf i hi
    simp only [st_qr_scaled_0, Int.toNat_natCast]
    rw [dec_true (by omega), cond_true, and_true_of (inR_of (by omega) (by omega)), and_true_of (fits_ok (by omega) (by omega)), law_Ldexp N h3 h4 (by omega) (by omega)]
    rw [← scl_getD xs (0 - e) hi]
    have hst := set_take (scl xs (0 - e)) (some 0) none (i := i) (by omega)
    have hL : ((scl xs (0 - e)).take i ++ List.replicate ((scl xs (0 - e)).length - i) (some 0)).length = xs.length := by rw [List.length_append, List.length_take, List.length_replicate]; omega
    have hL' : ((scl xs (0 - e)).take (i + 1) ++ List.replicate ((scl xs (0 - e)).length - (i + 1)) (some 0)).length = xs.length := by rw [List.length_append, List.length_take, List.length_replicate]; omega
    simp only [hst, hL, hL']
    rw [and_true_of (inR_of (by omega) (by omega)), and_true_of (dec_true (by omega)), and_true_of (inR_of (by omega) (by omega)), and_true_of (dec_true (by omega)), and_true_of (inR_of (by omega) (by omega)), and_true_of (dec_true (by omega)), and_true_of (fits_ok (by omega) (by omega))]
    have hg : ((scl xs (0 - e)).take (i + 1) ++ List.replicate ((scl xs (0 - e)).length - (i + 1)) (some 0)).getD i none = (scl xs (0 - e)).getD i none := by
      rw [List.getD_eq_getElem?_getD, List.getD_eq_getElem?_getD, List.getElem?_append, if_pos (by rw [List.length_take]; omega), List.getElem?_take, if_pos (by omega)]
    rw [hg]
    rfl
  · simp only [st_qr_scaled_0]
    rw [dec_false (by omega), cond_false]
    have : (scl xs (0 - e)).take xs.length ++ List.replicate ((scl xs (0 - e)).length - xs.length) (some 0) = scl xs (0 - e) := by
      rw [hlen, Nat.sub_self, List.replicate_zero, List.append_nil, List.take_of_length_le (by omega)]
    rw [this]
    rfl
theorem law_Dot_self {N : Nat} {ys : List Fl} (hN : 1000 ≤ N) (hl : ys.length ≤ 48) (k : Fl → Bool) : s_q91 N ys ys k = k (sumSq ys ys.length) := by
  unfold s_q91 G_q91
  refine iterG_eq0 (fun n => (sumSq ys n, (n : Int))) ys.length rfl (by omega) (fun i hi K => ?_) (fun K => ?_)
  · simp only [st_z08_Dot_0, Int.toNat_natCast]
    rw [dec_true (by omega), cond_true, and_true_of (inR_of (by omega) (by omega)), and_true_of (inR_of (by omega) (by omega)), and_true_of (fits_ok (by omega) (by omega))]
    rfl
  · simp only [st_z08_Dot_0]
    rw [dec_false (by omega), cond_false]
theorem law_scaled {N : Nat} {xs : List Fl} (hN : 1000 ≤ N) (hl : xs.length ≤ 48) (hf : FinW xs) {e : Int} (h1 : -4000 ≤ e) (h2 : e ≤ 4000) (k : Fl → List Fl → Bool) :
    s_q75 N xs e k = k (fsqrt (sumSq (scl xs (0 - e)) xs.length)) (scl xs (0 - e)) := by
  unfold s_q75 G_q75
  have hlen := scl_length xs (0 - e)
  refine iterG_eq0 (fun n => ((n : Int), (scl xs (0 - e)).take n)) xs.length rfl (by omega) (fun i hi K => ?_) (fun K => ?_)
  · obtain ⟨h3, h4⟩ := hf i hi
    simp only [st_z10_scaled_0, Int.toNat_natCast]
    rw [dec_true (by omega), cond_true, and_true_of (inR_of (by omega) (by omega)), and_true_of (fits_ok (by omega) (by omega)), law_Times hN h3 h4 (by omega) (by omega)]
    rw [← scl_getD xs (0 - e) hi, take_snoc _ _ (by omega)]
    rw [and_true_of (dec_true (by rw [List.length_take]; omega)), and_true_of (fits_ok (by omega) (by omega))]
    rfl
  · simp only [st_z10_scaled_0]
    rw [dec_false (by omega), cond_false, List.take_of_length_le (by omega), law_Dot_self hN (by omega), hlen]
    rfl

/-! ### beyond the numbers -/
theorem law_Ldexp_inf (N : Nat) (k : Int) (κ : Fl → Bool) : s_q59 N (some 9218868437227405312) k κ = κ (some 9218868437227405312) := by
  unfold s_q59 G_q59 s_q112 G_q112
  have h1 : feq (some 9218868437227405312) (some 0) = false := by decide
  rw [h1, cond_false]
  unfold s_q64 G_q64
  rw [show ((0 : Int) == 0) = true from rfl, cond_true]
  simp only [s_m_Abs]
  have h2 : fgt (absF (some 9218868437227405312)) (some 9218868437227405311) = true := by decide
  rw [h2]
  rfl
theorem law_Times_inf {N : Nat} (hN : 1000 ≤ N) (k : Int) (κ : Fl → Bool) : s_q24 N (some 9218868437227405312) k κ = κ (some 9218868437227405312) := by
  unfold s_q24 G_q24
  show s_q83 N ((9218868437227405312 : Nat) : Int) k _ = _
  have hK : ∀ x, s_q60 N x = x := fun _ => rfl
  have hD : ∀ x, s_q40 N x = x := fun _ => rfl
  unfold s_q83 G_q83
  rw [hK, hD]
  unfold s_q86 G_q86
  rw [fdiv52, fdiv63, and52, and11, and01, sign_eq]
  have e1 : ((9218868437227405312 / 4503599627370496 % 2048 : Nat) : Int) = 2047 := by decide
  have e2 : ((9218868437227405312 % 4503599627370496 : Nat) : Int) = 0 := by decide
  have e3 : (9218868437227405312 / 9223372036854775808 % 2 == 1) = false := by decide
  rw [e1, e3, and_tr (fits_ok (by omega) (by omega)), law_SetUint64 _ (by decide) _ (short_small hN (by decide)) (by omega)]
  dsimp only
  rw [e2, show ((2047 : Int) == 2047) = true by decide, cond_true, show ((0 : Int) != 0) = false by decide, cond_false]
  unfold J_q124
  rw [hD]
  unfold s_q53 G_q53
  rw [show ((1 : Int) == 2) = false by decide, cond_false, show ((1 : Int) == 1) = true by decide, cond_true, law_Infinity]
  rfl
theorem inf_word {b : Nat} (hw : W64 b) (h : Ieee.double.read b = .infinity false) : b = 9218868437227405312 := by
  unfold Format.read at h
  simp only [signWeight_d, binade_d, infRung_d] at h
  unfold W64 at hw
  split at h
  · cases h
  · split at h
    · cases h
    · split at h
      · have hs : (b / 9223372036854775808 % 2 == 1) = false := by injection h
        have hs2 : b / 9223372036854775808 % 2 ≠ 1 := fun e => by rw [e] at hs; cases hs
        omega
      · cases h
/-- a number that is not below nought, or infinity, times a power of two: both programs' -/
theorem law_scale_NN {N : Nat} (hN : 1000 ≤ N) {g : Fl} (hg : NN g) {e : Int} (h1 : -5000 ≤ e) (h2 : e ≤ 5000) : (∀ κ, s_q59 N g e κ = κ (sclF g e)) ∧ (∀ κ, s_q24 N g e κ = κ (sclF g e)) := by
  obtain ⟨b, rfl, hw, h | h⟩ := hg
  · obtain ⟨m, i, h⟩ := h
    have hf := finF_of h
    have hF : FW (some b) := fun c hc => by cases hc; exact hw
    exact ⟨fun κ => law_Ldexp N hf hF h1 h2 κ, fun κ => law_Times hN hf hF h1 h2 κ⟩
  · have hb := inf_word hw h
    have e : sclF (some b) e = some b := by unfold sclF; simp only [h]
    rw [e, hb]
    exact ⟨fun κ => law_Ldexp_inf N _ κ, fun κ => law_Times_inf hN _ κ⟩

/-! ### lengths -/
theorem NN_sumSq {xs : List Fl} (hf : FinW xs) (k : Int) : ∀ n, n ≤ xs.length → NN (sumSq (scl xs k) n) := by
  intro n
  induction n with
  | zero => intro _; exact NN_zero
  | succ n ih =>
    intro hn
    refine NN_fadd (ih (by omega)) ?_
    rw [scl_getD xs k (by omega)]
    exact NN_sclF (hf n (by omega)).1 k
theorem finW_of {xs : List Fl} (hw : ∀ i, i < xs.length → FW (xs.getD i none)) (ha : allFin xs = true) : FinW xs :=
  fun i hi => ⟨allN_iff.1 ha i hi, hw i hi⟩
/-- the length of a row, and why it has none -/
theorem law_Length {N : Nat} (hN : 1000 ≤ N) {xs : List Fl} (hl : xs.length ≤ 48) (hw : ∀ i, i < xs.length → FW (xs.getD i none)) :
    ∃ x n, (∀ κ, s_qr_Length N xs κ = κ x n) ∧ (∀ κ, s_q77 N xs κ = κ x n) := by
  have hS : Small N xs.length := ⟨by omega, by omega⟩
  have d1 : decide (((xs.length : Nat) : Int) > 48) = false := dec_false (by omega)
  have n4 : ((4 : Int) != 0) = true := by decide
  have n0 : ((0 : Int) != 0) = false := by decide
  cases ha : allFin xs with
  | false =>
    refine ⟨some 0, 4, fun κ => ?_, fun κ => ?_⟩
    · unfold s_qr_Length G_qr_Length s_qr_list G_qr_list
      rw [d1, cond_false, law_Finite xs hS, ha]
      dsimp only
      rw [Bool.not_false, cond_true, n4, cond_true]
    · unfold s_q77 G_q77 s_q107 G_q107
      rw [d1, cond_false, law_AllFinite xs hS, ha]
      dsimp only
      rw [Bool.not_false, cond_true, n4, cond_true]
  | true =>
    have hf := finW_of hw ha
    obtain ⟨hm, hmw⟩ := most_fin hf xs.length (Nat.le_refl _)
    have q1 : ∀ κ, s_qr_Length N xs κ = s_qr_length N xs (fun xr => cond (!finF xr) (κ (some 0) 5) (κ xr 0)) := by
      intro κ
      unfold s_qr_Length G_qr_Length s_qr_list G_qr_list
      rw [d1, cond_false, law_Finite xs hS, ha]
      dsimp only
      rw [Bool.not_true, cond_false, n0, cond_false]
      simp only [s_qr_finite, G_qr_finite, fin_eq]
    have q2 : ∀ κ, s_q77 N xs κ = s_q65 N xs (fun e c => cond (!c) (κ (some 0) 0) (s_q75 N xs e (fun g _ => s_q24 N g e (fun xr => cond (!finF xr) (κ (some 0) 5) (κ xr 0))))) := by
      intro κ
      unfold s_q77 G_q77 s_q107 G_q107
      rw [d1, cond_false, law_AllFinite xs hS, ha]
      dsimp only
      rw [Bool.not_true, cond_false, n0, cond_false]
      simp only [law_ref_Finite]
    cases h0 : feq (mostF xs xs.length) (some 0) with
    | true =>
      refine ⟨some 0, 0, fun κ => ?_, fun κ => ?_⟩
      · rw [q1]
        unfold s_qr_length G_qr_length
        rw [law_qr_power hN hl, h0, cond_true]
        rfl
      · rw [q2, law_Power hN hl, h0, cond_true]
        rfl
    | false =>
      obtain ⟨fr, e, he, he1, he2, -⟩ := law_frexp N hm hmw h0
      have hg : NN (fsqrt (sumSq (scl xs (0 - (e - 1))) xs.length)) := NN_fsqrt (NN_sumSq hf _ _ (Nat.le_refl _))
      obtain ⟨s1, s2⟩ := law_scale_NN hN hg (e := e - 1) (by omega) (by omega)
      have r1 : ∀ κ, s_qr_Length N xs κ = (fun xr => cond (!finF xr) (κ (some 0) 5) (κ xr 0)) (sclF (fsqrt (sumSq (scl xs (0 - (e - 1))) xs.length)) (e - 1)) := by
        intro κ
        rw [q1]
        unfold s_qr_length G_qr_length
        rw [law_qr_power hN hl, h0, cond_false, he]
        dsimp only
        rw [and_tr (fits_ok (by omega) (by omega)), Bool.not_true, cond_false, law_qr_scaled hN hl hf (by omega) (by omega), s1]
      have r2 : ∀ κ, s_q77 N xs κ = (fun xr => cond (!finF xr) (κ (some 0) 5) (κ xr 0)) (sclF (fsqrt (sumSq (scl xs (0 - (e - 1))) xs.length)) (e - 1)) := by
        intro κ
        rw [q2, law_Power hN hl, h0, cond_false, he]
        dsimp only
        rw [and_tr (fits_ok (by omega) (by omega)), Bool.not_true, cond_false, law_scaled hN hl hf (by omega) (by omega), s2]
      generalize sclF (fsqrt (sumSq (scl xs (0 - (e - 1))) xs.length)) (e - 1) = y at r1 r2
      cases hy : finF y with
      | false =>
        refine ⟨some 0, 5, fun κ => ?_, fun κ => ?_⟩
        · rw [r1]; dsimp only; rw [hy]; rfl
        · rw [r2]; dsimp only; rw [hy]; rfl
      | true =>
        refine ⟨y, 0, fun κ => ?_, fun κ => ?_⟩
        · rw [r1]; dsimp only; rw [hy]; rfl
        · rw [r2]; dsimp only; rw [hy]; rfl

end Go.Proofs.YtldpkhfffeddiaaGreat
end
section
namespace Go.Proofs.YtldpkhfffeddiaaGreat
open Go Go.Mach Ieee
set_option linter.unusedVariables false

/-- not below one, perhaps infinite -/
def GE1 (x : Fl) : Prop := ∃ b, x = some b ∧ W64 b ∧ (Ieee.double.read b = .infinity false ∨ ∃ m i, Ieee.double.read b = .number false m i ∧ 4503599627370496 ≤ m ∧ m < 9007199254740992 ∧ -52 ≤ i)
theorem GE1_nearest {m : Nat} (h0 : m ≠ 0) {i : Int} (h : 0 ≤ i + m.log2) : GE1 (some (Ieee.double.nearest false m i)) := by
  obtain ⟨r, hr, h1, h2⟩ := nearest_ge false h0 (i := i) (E := 1023) (by decide) (by decide) (by omega)
  refine ⟨_, rfl, nearest_W64 _ _ _, ?_⟩
  rw [hr]
  rcases read_ge false (E := 1023) (by decide) h1 h2 with e | ⟨m', i', e, h3, h4, h5⟩
  · exact .inl e
  · exact .inr ⟨m', i', e, h3, h4, by omega⟩
theorem GE1_inf : GE1 (some (Ieee.double.write (.infinity false))) := by
  have : Ieee.double.write (.infinity false) = Ieee.double.word false 9218868437227405312 := by rw [← infRung_d]; rfl
  rw [this]
  exact ⟨_, rfl, word_W64 false (by decide), .inl (by decide)⟩
theorem GE1_fadd {x y : Fl} (hx : GE1 x) (hy : NN y) : GE1 (fadd x y) := by
  obtain ⟨a, rfl, -, ha⟩ := hx
  obtain ⟨b, rfl, -, hb⟩ := hy
  show GE1 (((Ieee.double.read a).sum (Ieee.double.read b)).map Ieee.double.write)
  rcases ha with ha | ⟨m, i, ha, hm, -, hi⟩ <;> rcases hb with ⟨n, j, hb⟩ | hb <;> rw [ha, hb]
  · exact GE1_inf
  · exact GE1_inf
  · simp only [Datum.sum, Option.map_some]
    have h1 : signed false m (i - min i j).toNat = ((m <<< (i - min i j).toNat : Nat) : Int) := rfl
    have h2 : signed false n (j - min i j).toNat = ((n <<< (j - min i j).toNat : Nat) : Int) := rfl
    rw [h1, h2]
    have hge : 2 ^ (52 + (i - min i j).toNat) ≤ m <<< (i - min i j).toNat := by
      rw [Nat.shiftLeft_eq, Nat.pow_add]
      exact Nat.mul_le_mul_right _ (by simpa using hm)
    have hpos : 0 < 2 ^ (52 + (i - min i j).toNat) := Nat.two_pow_pos _
    generalize hp : m <<< (i - min i j).toNat = p at *
    generalize n <<< (j - min i j).toNat = q
    rw [if_neg (by omega), decide_eq_false (by omega), write_number]
    have hab : ((p : Int) + (q : Int)).natAbs = p + q := by omega
    rw [hab]
    refine GE1_nearest (by omega) ?_
    have hl : 52 + (i - min i j).toNat ≤ (p + q).log2 := (Nat.le_log2 (by omega)).2 (by omega)
    omega
  · exact GE1_inf
theorem GE1_fadd' {x y : Fl} (hx : NN x) (hy : GE1 y) : GE1 (fadd x y) := by rw [fadd_comm]; exact GE1_fadd hy hx
theorem GE1_NN {x : Fl} (h : GE1 x) : NN x := by
  obtain ⟨b, rfl, hw, h⟩ := h
  refine ⟨b, rfl, hw, ?_⟩
  rcases h with h | ⟨m, i, h, -⟩
  · exact .inr h
  · exact .inl ⟨m, i, h⟩
/-- what may divide -/
def Dv (x : Fl) : Prop := ∃ b, x = some b ∧ (Ieee.double.read b = .infinity false ∨ ∃ m i, Ieee.double.read b = .number false m i ∧ m ≠ 0)
theorem Dv_fsqrt {x : Fl} (hx : GE1 x) : Dv (fsqrt x) := by
  obtain ⟨a, rfl, -, ha⟩ := hx
  show Dv (((Ieee.double.read a).root (Ieee.double.fractionBits + 2)).map Ieee.double.write)
  rcases ha with ha | ⟨m, i, ha, hm, hm2, hi⟩ <;> rw [ha]
  · obtain ⟨b, e, -, h⟩ := GE1_inf
    refine ⟨b, e, ?_⟩
    rcases h with h | ⟨m, i, h, h2, -⟩
    · exact .inl h
    · exact .inr ⟨m, i, h, by omega⟩
  · simp only [Datum.root, Bool.false_eq_true, if_false]
    rw [if_neg (by omega)]
    have hf : Ieee.double.fractionBits = 52 := rfl
    have hl : m.log2 = 52 := log2_normal ⟨hm, hm2⟩
    rw [hf, hl]
    generalize hmore : 2 * (52 + 2) - 52 + ((i - ((2 * (52 + 2) - 52 : Nat) : Int)) % 2).toNat = more
    have hmore2 : more ≤ 57 := by omega
    have hn : m <<< more ≠ 0 := by
      rw [Nat.shiftLeft_eq]
      exact Nat.mul_ne_zero (by omega) (Nat.pos_iff_ne_zero.1 (Nat.two_pow_pos _))
    generalize m <<< more = n at hn
    generalize Datum.rootFrom n (n.log2 / 2 + 1) 0 = w
    rw [Option.map_some, write_number]
    have h0 : 2 * w + (w * w != n).toNat ≠ 0 := by
      by_cases hw : w = 0
      · subst hw
        have : (0 * 0 != n) = true := by rw [bne_iff_ne]; omega
        rw [this]; decide
      · omega
    generalize 2 * w + (w * w != n).toNat = p at h0
    have hE : ((900 : Nat) : Int) ≤ (i - (more : Int)) / 2 - 1 + p.log2 + 1023 := by omega
    obtain ⟨r, hr, h1, h2⟩ := nearest_ge false h0 (E := 900) (by decide) (by decide) hE
    refine ⟨_, rfl, ?_⟩
    rw [hr]
    rcases read_ge false (E := 900) (by decide) h1 h2 with e | ⟨m', i', e, h3, -⟩
    · exact .inl e
    · exact .inr ⟨m', i', e, by omega⟩
theorem fdiv_some {x y : Fl} (hx : finF x = true) (hy : Dv y) : (fdiv x y).isSome = true := by
  obtain ⟨a, s, m, i, rfl, ha⟩ := finF_num hx
  obtain ⟨b, rfl, hb⟩ := hy
  show (((Ieee.double.read a).quotient (Ieee.double.fractionBits + 2) (Ieee.double.read b)).map Ieee.double.write).isSome = true
  rw [ha]
  rcases hb with hb | ⟨n, j, hb, hn⟩
  · rw [hb]; rfl
  · rw [hb]; simp only [Datum.quotient, if_neg hn]; rfl

/-! ### scaled -/
theorem log2_vl {m m' : Nat} {i i' : Int} (h0 : m' ≠ 0) (h : m' * 2 ^ (i' + 1074).toNat ≤ m * 2 ^ (i + 1074).toNat) (hi : -1074 ≤ i) (hi' : -1074 ≤ i') : i' + m'.log2 ≤ i + m.log2 := by
  have h1 := Nat.log2_self_le h0
  have h2 : m < 2 ^ (m.log2 + 1) := Nat.lt_log2_self
  have h3 : 2 ^ (m'.log2 + (i' + 1074).toNat) < 2 ^ (m.log2 + 1 + (i + 1074).toNat) := by
    rw [Nat.pow_add, Nat.pow_add]
    exact Nat.lt_of_le_of_lt (Nat.mul_le_mul_right _ h1) (Nat.lt_of_le_of_lt h (Nat.mul_lt_mul_of_pos_right h2 (Nat.two_pow_pos _)))
  have h4 := (Nat.pow_lt_pow_iff_right (by decide : 1 < 2)).1 h3
  omega
theorem vl_abs {x : Fl} (hx : finF x = true) (hw : FW x) {b : Nat} {s : Bool} {m : Nat} {i : Int} (e : x = some b) (h : Ieee.double.read b = .number s m i) : vl (absF x) = ((m * 2 ^ (i + 1074).toNat : Nat) : Int) := by
  subst e
  obtain ⟨c, hc, hcw, hcr⟩ := absF_num (hw b rfl) h
  rw [hc, vl_num hcr, ← Nat.shiftLeft_eq]; rfl
/-- each magnitude is at most the greatest; and the greatest is one of them -/
theorem most_vl {xs : List Fl} (h : FinW xs) : ∀ n, n ≤ xs.length → (∀ i, i < n → vl (absF (xs.getD i none)) ≤ vl (mostF xs n)) ∧ (mostF xs n = some 0 ∨ ∃ i, i < n ∧ mostF xs n = absF (xs.getD i none)) := by
  intro n
  induction n with
  | zero => intro _; exact ⟨fun i hi => absurd hi (Nat.not_lt_zero _), .inl rfl⟩
  | succ n ih =>
    intro hn
    obtain ⟨h1, h2⟩ := ih (by omega)
    obtain ⟨h3, h4⟩ := most_fin h n (by omega)
    obtain ⟨h5, h6⟩ := h n (by omega)
    obtain ⟨-, h8, h9⟩ := fmm_vl h3 (absF_fin h5 h6)
    refine ⟨fun i hi => ?_, ?_⟩
    · show _ ≤ vl (fmm true (mostF xs n) (absF (xs.getD n none)))
      rw [h8]
      by_cases hin : i = n
      · subst hin; omega
      · have := h1 i (by omega); omega
    · show fmm true (mostF xs n) (absF (xs.getD n none)) = _ ∨ ∃ i, _ ∧ fmm true (mostF xs n) (absF (xs.getD n none)) = _
      rcases h9 with e | e
      · rw [e]
        rcases h2 with e2 | ⟨i, hi, e2⟩
        · exact .inl e2
        · exact .inr ⟨i, by omega, e2⟩
      · exact .inr ⟨n, by omega, e⟩
/-- behind the power of two: all are finite, and one square is not below one -/
theorem scl_facts {N : Nat} {xs : List Fl} (hf : FinW xs) (h0 : feq (mostF xs xs.length) (some 0) = false) :
    ∃ fr e, (∀ κ : Fl → Int → Bool, s_q41 N (mostF xs xs.length) κ = κ fr e) ∧ -1200 ≤ e ∧ e ≤ 1200 ∧
      (∀ i, i < xs.length → finF (sclF (xs.getD i none) (1 - e)) = true) ∧
      ∃ j, j < xs.length ∧ GE1 (fmul (sclF (xs.getD j none) (1 - e)) (sclF (xs.getD j none) (1 - e))) := by
  obtain ⟨hm, hmw⟩ := most_fin hf xs.length (Nat.le_refl _)
  obtain ⟨hle, hone⟩ := most_vl hf xs.length (Nat.le_refl _)
  obtain ⟨fr, e, he, he1, he2, he3⟩ := law_frexp N hm hmw h0
  obtain ⟨b, s, m, i, hb, hr⟩ := finF_num hm
  have hei := he3 b s m i hb hr
  have hm0 : m ≠ 0 := by
    rw [hb, feq_zero hr] at h0
    exact of_decide_eq_false h0
  have hgi := place_ge hr
  rcases hone with e0 | ⟨j, hj, ej⟩
  · rw [e0] at h0
    exact absurd h0 (by decide)
  obtain ⟨hjf, hjw⟩ := hf j hj
  obtain ⟨bj, sj, mj, ij, hbj, hrj⟩ := finF_num hjf
  have hsame : mj = m ∧ ij = i := by
    obtain ⟨c, hc, hcw, hcr⟩ := absF_num (hjw bj hbj) hrj
    rw [hbj, hc] at ej
    rw [ej] at hb
    cases hb
    rw [hcr] at hr
    cases hr
    exact ⟨rfl, rfl⟩
  obtain ⟨rfl, rfl⟩ := hsame
  have hvm : vl (mostF xs xs.length) = ((mj * 2 ^ (ij + 1074).toNat : Nat) : Int) := by
    rw [ej]; exact vl_abs hjf hjw hbj hrj
  refine ⟨fr, e, he, he1, he2, fun l hl => ?_, j, hj, ?_⟩
  · obtain ⟨hlf, hlw⟩ := hf l hl
    obtain ⟨bl, sl, ml, il, hbl, hrl⟩ := finF_num hlf
    rw [hbl, sclF_num hrl]
    have hb2 : il + (1 - e) + ml.log2 ≤ 1000 := by
      by_cases hz : ml = 0
      · obtain ⟨-, -, hh⟩ := read_number hrl
        subst hz
        have : (0 : Nat).log2 = 0 := by decide
        omega
      · have hv := hle l hl
        rw [hvm, vl_abs hlf hlw hbl hrl] at hv
        have := log2_vl hz (Int.ofNat_le.1 hv) hgi (place_ge hrl)
        omega
    obtain ⟨r, hr2, hr3⟩ := nearest_fin sl (m := ml) (i := il + (1 - e)) hb2
    rw [hr2]
    obtain ⟨m', i', e'⟩ := read_fin sl hr3
    exact finF_of e'
  · rw [hbj, sclF_num hrj]
    have hpm := place_le hrj
    obtain ⟨h1, h2⟩ := lift52 hm0 hpm.2
    have e2 : Ieee.double.nearest sj mj (ij + (1 - e)) = Ieee.double.nearest sj (mj <<< (52 - mj.log2)) (-52) := by
      rw [← nearest_lift sj mj (ij + (1 - e))]
      congr 1
      have : mj.log2 ≤ 52 := by
        have := (Nat.log2_lt hm0).2 (by simpa using hpm.2 : mj < 2 ^ 53)
        omega
      omega
    have e3 : Ieee.double.nearest sj (mj <<< (52 - mj.log2)) (-52) = Ieee.double.word sj (((-52 : Int) + 1075).toNat * 4503599627370496 + (mj <<< (52 - mj.log2) - 4503599627370496)) :=
      write_read (word_W64 sj (by omega)) (read_normal sj _ _ ⟨h1, h2⟩ (by omega))
    rw [e2, e3, fmul_w, read_normal sj _ _ ⟨h1, h2⟩ (by omega)]
    generalize mj <<< (52 - mj.log2) = M at h1 h2
    have : (Datum.number sj M (-52)).product (.number sj M (-52)) = some (.number (sj ^^ sj) (M * M) (-52 + -52)) := rfl
    rw [this, Bool.xor_self, Option.map_some, write_number]
    have hMM : 4503599627370496 * 4503599627370496 ≤ M * M := Nat.mul_le_mul h1 h1
    refine GE1_nearest (by omega) ?_
    have hl : 104 ≤ (M * M).log2 := (Nat.le_log2 (by omega)).2 (Nat.le_trans (by decide) hMM)
    omega

end Go.Proofs.YtldpkhfffeddiaaGreat
end
section
namespace Go.Proofs.YtldpkhfffeddiaaGreat
open Go Go.Mach Ieee
set_option linter.unusedVariables false

theorem small_of {N : Nat} (hN : 1000 ≤ N) {n : Nat} (h : n ≤ 48) : Small N n := ⟨by omega, by omega⟩
theorem le3 (a b c : Fl) : [a, b, c].length ≤ 48 := Nat.le_of_ble_eq_true rfl
theorem le4 (a b c d : Fl) : [a, b, c, d].length ≤ 48 := Nat.le_of_ble_eq_true rfl
theorem law_quat_finite {N : Nat} (xs : List Fl) (hl : Small N xs.length) (k : Bool → Bool) : s_quat_finite N xs k = k (allFin xs) := by
  unfold s_quat_finite G_quat_finite
  rw [← cond_k (allFin xs) k]
  refine (iterG_all (fun i => (i : Int)) (fun i => finF (xs.getD i none)) xs.length hl.1 (fun i hi K => ?_) (fun K => ?_) : _)
  · have h2 := hl.2
    simp only [st_quat_finite_0, Int.toNat_natCast, fin_eq]
    rw [dec_true (by omega), cond_true, and_true_of (inR_of (by omega) (by omega)), and_true_of (inR_of (by omega) (by omega)), and_true_of (fits_ok (by omega) (by omega))]
    cases finF (xs.getD i none) <;> rfl
  · simp only [st_quat_finite_0]
    rw [dec_false (by omega), cond_false]
theorem law_FiniteVec {N : Nat} (hN : 1000 ≤ N) (a b c : Fl) (k : Bool → Bool) : s_q15 N a b c k = k (allFin [a, b, c]) :=
  law_AllFinite _ (small_of hN (Nat.le_of_ble_eq_true rfl)) _
theorem law_Finite4 {N : Nat} (hN : 1000 ≤ N) (a b c d : Fl) (k : Bool → Bool) : s_q18 N a b c d k = k (allFin [a, b, c, d]) :=
  law_AllFinite _ (small_of hN (Nat.le_of_ble_eq_true rfl)) _
theorem law_good {N : Nat} (hN : 1000 ≤ N) (a b c d : Fl) (k : Bool → Bool) : s_quat_good_o1 N a b c d k = k (allFin [a, b, c, d]) := by
  unfold s_quat_good_o1 G_quat_good_o1
  rw [law_quat_finite _ (small_of hN (Nat.le_of_ble_eq_true rfl))]
  cases allFin [a, b, c, d] <;> rfl
theorem law_told {N : Nat} (hN : 1000 ≤ N) (a b c d : Fl) (k : Fl → Fl → Fl → Fl → Int → Bool) : s_quat_told N a b c d k = cond (!allFin [a, b, c, d]) (k (some 0) (some 0) (some 0) (some 0) 5) (k a b c d 0) := by
  unfold s_quat_told G_quat_told
  rw [law_good hN]

/-! ### directions -/
def dirE (a b c : Fl) : Int := cond (!allFin [a, b, c]) 4 (cond (feq a (some 0) && (feq b (some 0) && feq c (some 0))) 251 0)
theorem law_dir {N : Nat} (hN : 1000 ≤ N) (a b c : Fl) (k : Int → Bool) : s_q26 N a b c k = k (dirE a b c) := by
  unfold s_q26 G_q26 dirE
  rw [law_Finite _ (small_of hN (Nat.le_of_ble_eq_true rfl))]
  cases allFin [a, b, c] <;> cases feq a (some 0) <;> cases feq b (some 0) <;> cases feq c (some 0) <;> rfl
theorem law_direction {N : Nat} (hN : 1000 ≤ N) (a b c : Fl) (k : Int → Bool) : s_q21 N a b c k = k (dirE a b c) := by
  unfold s_q21 G_q21 dirE
  rw [law_FiniteVec hN]
  cases allFin [a, b, c] <;> cases feq a (some 0) <;> cases feq b (some 0) <;> cases feq c (some 0) <;> rfl

/-! ### shortened -/
theorem FW3 {a b c : Fl} (ha : FW a) (hb : FW b) (hc : FW c) : ∀ i, i < [a, b, c].length → FW ([a, b, c].getD i none) := by
  intro i hi
  match i, hi with
  | 0, _ => exact ha
  | 1, _ => exact hb
  | 2, _ => exact hc
theorem FW4 {a b c d : Fl} (ha : FW a) (hb : FW b) (hc : FW c) (hd : FW d) : ∀ i, i < [a, b, c, d].length → FW ([a, b, c, d].getD i none) := by
  intro i hi
  match i, hi with
  | 0, _ => exact ha
  | 1, _ => exact hb
  | 2, _ => exact hc
  | 3, _ => exact hd
abbrev K3 : Type := Fl → Fl → Fl → Int → Bool
def Both3 (f g : K3 → Bool) : Prop := ∃ x y z n, FW x ∧ FW y ∧ FW z ∧ (∀ κ, f κ = κ x y z n) ∧ (∀ κ, g κ = κ x y z n)
theorem law_short {N : Nat} (hN : 1000 ≤ N) {a b c : Fl} (ha : FW a) (hb : FW b) (hc : FW c) : Both3 (s_q57 N a b c) (s_q76 N a b c) := by
  obtain ⟨x, n, h1, h2⟩ := law_Length hN (xs := [a, b, c]) (le3 a b c) (FW3 ha hb hc)
  by_cases hn : n = 0
  · subst hn
    refine ⟨_, _, _, 0, FW_fdiv a x, FW_fdiv b x, FW_fdiv c x, fun κ => ?_, fun κ => ?_⟩
    · unfold s_q57 G_q57
      rw [h1]; rfl
    · unfold s_q76 G_q76
      rw [h2]; rfl
  · have hb : (n != 0) = true := by rw [bne_iff_ne]; exact hn
    refine ⟨some 0, some 0, some 0, n, FW_zero, FW_zero, FW_zero, fun κ => ?_, fun κ => ?_⟩
    · unfold s_q57 G_q57
      rw [h1, hb]; rfl
    · unfold s_q76 G_q76
      rw [h2, hb]; rfl

/-! ### cross products -/
theorem law_Cross {N : Nat} (hN : 1000 ≤ N) (a b c p q r : Fl) : Both3 (s_quat_Cross N a b c p q r) (s_q87 N a b c p q r) := by
  have q1 : ∀ κ, s_quat_Cross N a b c p q r κ = cond (allFin [a, b, c]) (cond (allFin [p, q, r]) (cond (allFin [fsub (fmul b r) (fmul c q), fsub (fmul c p) (fmul a r), fsub (fmul a q) (fmul b p)]) (κ (fsub (fmul b r) (fmul c q)) (fsub (fmul c p) (fmul a r)) (fsub (fmul a q) (fmul b p)) 0) (κ (some 0) (some 0) (some 0) 5)) (κ (some 0) (some 0) (some 0) 4)) (κ (some 0) (some 0) (some 0) 4) := by
    intro κ
    unfold s_quat_Cross G_quat_Cross
    rw [law_quat_finite _ (small_of hN (Nat.le_of_ble_eq_true rfl))]
    cases allFin [a, b, c]
    · rfl
    · rw [show ((!true) == false) = true from rfl, cond_true, cond_true, law_quat_finite _ (small_of hN (Nat.le_of_ble_eq_true rfl))]
      cases allFin [p, q, r]
      · rfl
      · rw [Bool.not_true, cond_false, cond_true]
        unfold s_quat_cross G_quat_cross s_quat_vec G_quat_vec
        dsimp only
        rw [law_quat_finite _ (small_of hN (Nat.le_of_ble_eq_true rfl))]
        cases allFin [fsub (fmul b r) (fmul c q), fsub (fmul c p) (fmul a r), fsub (fmul a q) (fmul b p)] <;> rfl
  have q2 : ∀ κ, s_q87 N a b c p q r κ = cond (allFin [a, b, c]) (cond (allFin [p, q, r]) (cond (allFin [fsub (fmul b r) (fmul c q), fsub (fmul c p) (fmul a r), fsub (fmul a q) (fmul b p)]) (κ (fsub (fmul b r) (fmul c q)) (fsub (fmul c p) (fmul a r)) (fsub (fmul a q) (fmul b p)) 0) (κ (some 0) (some 0) (some 0) 5)) (κ (some 0) (some 0) (some 0) 4)) (κ (some 0) (some 0) (some 0) 4) := by
    intro κ
    unfold s_q87 G_q87
    rw [law_FiniteVec hN, law_FiniteVec hN]
    cases allFin [a, b, c] <;> cases allFin [p, q, r]
    · rfl
    · rfl
    · rfl
    · rw [cond_true, cond_true]
      unfold s_q43 G_q43
      rw [Bool.not_true, cond_false, cond_false]
      dsimp only
      rw [show ((0 : Int) != 0) = false from rfl, cond_false]
      unfold s_q95 G_q95 s_q73 G_q73
      dsimp only
      rw [law_FiniteVec hN]
      cases allFin [fsub (fmul b r) (fmul c q), fsub (fmul c p) (fmul a r), fsub (fmul a q) (fmul b p)] <;> rfl
  cases h1 : allFin [a, b, c] with
  | false => exact ⟨_, _, _, 4, FW_zero, FW_zero, FW_zero, fun κ => by rw [q1, h1]; rfl, fun κ => by rw [q2, h1]; rfl⟩
  | true =>
    cases h2 : allFin [p, q, r] with
    | false => exact ⟨_, _, _, 4, FW_zero, FW_zero, FW_zero, fun κ => by rw [q1, h1, h2]; rfl, fun κ => by rw [q2, h1, h2]; rfl⟩
    | true =>
      cases h3 : allFin [fsub (fmul b r) (fmul c q), fsub (fmul c p) (fmul a r), fsub (fmul a q) (fmul b p)] with
      | false => exact ⟨_, _, _, 5, FW_zero, FW_zero, FW_zero, fun κ => by rw [q1, h1, h2, h3]; rfl, fun κ => by rw [q2, h1, h2, h3]; rfl⟩
      | true => exact ⟨_, _, _, 0, FW_fsub _ _, FW_fsub _ _, FW_fsub _ _, fun κ => by rw [q1, h1, h2, h3]; rfl, fun κ => by rw [q2, h1, h2, h3]; rfl⟩

/-! ### axes -/
abbrev K9 : Type := Fl → Fl → Fl → Fl → Fl → Fl → Fl → Fl → Fl → Int → Bool
/-- both are the same, or both fail alike -/
def Both9 (f g : K9 → Bool) : Prop :=
  (∃ n : Int, (n != 0) = true ∧ (∃ a b c d e p q r s, ∀ κ, f κ = κ a b c d e p q r s n) ∧ (∃ a b c d e p q r s, ∀ κ, g κ = κ a b c d e p q r s n)) ∨
  (∃ a b c d e p q r s, (∀ κ, f κ = κ a b c d e p q r s 0) ∧ (∀ κ, g κ = κ a b c d e p q r s 0))
theorem law_axes {N : Nat} (hN : 1000 ≤ N) {a b c p q r : Fl} (ha : FW a) (hb : FW b) (hc : FW c) : Both9 (s_q111 N a b c p q r) (s_q102 N a b c p q r) := by
  have n0 : ((0 : Int) != 0) = false := rfl
  obtain ⟨x1, y1, z1, n1, w1, w2, w3, f1, g1⟩ := law_short hN ha hb hc
  have e1 : ∀ κ, s_q111 N a b c p q r κ = G_q111 N (s_q57 N) (s_quat_Cross N) (s_q26 N) a b c p q r κ := fun _ => rfl
  have e2 : ∀ κ, s_q102 N a b c p q r κ = G_q102 N (s_q76 N) (s_q87 N) (s_q21 N) a b c p q r κ := fun _ => rfl
  by_cases h1 : n1 ≠ 0
  · have hb : (n1 != 0) = true := by rw [bne_iff_ne]; exact h1
    refine .inl ⟨n1, hb, ⟨x1, y1, z1, some 0, some 0, some 0, some 0, some 0, some 0, fun κ => ?_⟩, ⟨some 0, some 0, some 0, some 0, some 0, some 0, some 0, some 0, some 0, fun κ => ?_⟩⟩
    · rw [e1]; unfold G_q111; rw [f1, hb]; rfl
    · rw [e2]; unfold G_q102; rw [g1, hb]; rfl
  have h1 := Decidable.not_not.1 h1
  subst h1
  obtain ⟨x2, y2, z2, n2, w4, w5, w6, f2, g2⟩ := law_Cross hN x1 y1 z1 p q r
  have i1 : ∀ κ, s_q111 N a b c p q r κ = cond (n2 != 0) (κ x1 y1 z1 (some 0) (some 0) (some 0) (some 0) (some 0) (some 0) n2) (cond (dirE x2 y2 z2 != 0) (κ x1 y1 z1 (some 0) (some 0) (some 0) (some 0) (some 0) (some 0) (dirE x2 y2 z2)) (s_q57 N x2 y2 z2 (fun xr_6 xr_7 xr_8 nr_3 => (cond (nr_3 != 0) (κ x1 y1 z1 xr_6 xr_7 xr_8 (some 0) (some 0) (some 0) nr_3) (s_quat_Cross N x1 y1 z1 xr_6 xr_7 xr_8 (fun xr_9 xr_10 xr_11 nr_4 => κ x1 y1 z1 xr_6 xr_7 xr_8 xr_9 xr_10 xr_11 nr_4)))))) := by
    intro κ
    rw [e1]; unfold G_q111; rw [f1]
    rw [n0, cond_false, f2, law_dir hN]
  have i2 : ∀ κ, s_q102 N a b c p q r κ = cond (n2 != 0) (κ (some 0) (some 0) (some 0) (some 0) (some 0) (some 0) (some 0) (some 0) (some 0) n2) (cond (dirE x2 y2 z2 != 0) (κ (some 0) (some 0) (some 0) (some 0) (some 0) (some 0) (some 0) (some 0) (some 0) (dirE x2 y2 z2)) (s_q76 N x2 y2 z2 (fun xr_6 xr_7 xr_8 nr_3 => (cond (nr_3 != 0) (κ (some 0) (some 0) (some 0) (some 0) (some 0) (some 0) (some 0) (some 0) (some 0) nr_3) (s_q87 N x1 y1 z1 xr_6 xr_7 xr_8 (fun xr_9 xr_10 xr_11 nr_4 => (cond (nr_4 != 0) (κ (some 0) (some 0) (some 0) (some 0) (some 0) (some 0) (some 0) (some 0) (some 0) nr_4) (κ x1 y1 z1 xr_6 xr_7 xr_8 xr_9 xr_10 xr_11 0)))))))) := by
    intro κ
    rw [e2]; unfold G_q102; rw [g1]
    rw [n0, cond_false, g2, law_direction hN]
  clear e1 e2 f1 g1 f2 g2
  by_cases h2 : n2 ≠ 0
  · have hb : (n2 != 0) = true := by rw [bne_iff_ne]; exact h2
    exact .inl ⟨n2, hb, ⟨x1, y1, z1, some 0, some 0, some 0, some 0, some 0, some 0, fun κ => by rw [i1, hb, cond_true]⟩, ⟨some 0, some 0, some 0, some 0, some 0, some 0, some 0, some 0, some 0, fun κ => by rw [i2, hb, cond_true]⟩⟩
  have h2 := Decidable.not_not.1 h2
  subst h2
  by_cases h3 : dirE x2 y2 z2 ≠ 0
  · have hb : (dirE x2 y2 z2 != 0) = true := by rw [bne_iff_ne]; exact h3
    exact .inl ⟨_, hb, ⟨x1, y1, z1, some 0, some 0, some 0, some 0, some 0, some 0, fun κ => by rw [i1, hb, n0, cond_false, cond_true]⟩, ⟨some 0, some 0, some 0, some 0, some 0, some 0, some 0, some 0, some 0, fun κ => by rw [i2, hb, n0, cond_false, cond_true]⟩⟩
  have h3 := Decidable.not_not.1 h3
  rw [h3] at i1 i2
  obtain ⟨x3, y3, z3, n3, w7, w8, w9, f3, g3⟩ := law_short hN w4 w5 w6
  by_cases h4 : n3 ≠ 0
  · have hb : (n3 != 0) = true := by rw [bne_iff_ne]; exact h4
    exact .inl ⟨_, hb, ⟨x1, y1, z1, x3, y3, z3, some 0, some 0, some 0, fun κ => by rw [i1, n0, cond_false, cond_false, f3, hb, cond_true]⟩, ⟨some 0, some 0, some 0, some 0, some 0, some 0, some 0, some 0, some 0, fun κ => by rw [i2, n0, cond_false, cond_false, g3, hb, cond_true]⟩⟩
  have h4 := Decidable.not_not.1 h4
  subst h4
  obtain ⟨x4, y4, z4, n4, -, -, -, f4, g4⟩ := law_Cross hN x1 y1 z1 x3 y3 z3
  by_cases h5 : n4 ≠ 0
  · have hb : (n4 != 0) = true := by rw [bne_iff_ne]; exact h5
    exact .inl ⟨_, hb, ⟨x1, y1, z1, x3, y3, z3, x4, y4, z4, fun κ => by rw [i1, n0, cond_false, cond_false, f3, n0, cond_false, f4]⟩, ⟨some 0, some 0, some 0, some 0, some 0, some 0, some 0, some 0, some 0, fun κ => by rw [i2, n0, cond_false, cond_false, g3, n0, cond_false, g4, hb, cond_true]⟩⟩
  have h5 := Decidable.not_not.1 h5
  subst h5
  exact .inr ⟨_, _, _, _, _, _, _, _, _, fun κ => by rw [i1, n0, cond_false, cond_false, f3, n0, cond_false, f4], fun κ => by rw [i2, n0, cond_false, cond_false, g3, n0, cond_false, g4, n0, cond_false]⟩

end Go.Proofs.YtldpkhfffeddiaaGreat
end
section
namespace Go.Proofs.YtldpkhfffeddiaaGreat
open Go Go.Mach Ieee
set_option linter.unusedVariables false

abbrev K4 : Type := Fl → Fl → Fl → Fl → Int → Bool
def Both4 (f g : K4 → Bool) : Prop := ∃ a b c d n, (a.isSome = true ∧ b.isSome = true ∧ c.isSome = true ∧ d.isSome = true) ∧ (∀ κ, f κ = κ a b c d n) ∧ (∀ κ, g κ = κ a b c d n)
theorem both_err {f g : K4 → Bool} {n : Int} (hf : ∀ κ, f κ = κ (some 0) (some 0) (some 0) (some 0) n) (hg : ∀ κ, g κ = κ (some 0) (some 0) (some 0) (some 0) n) : Both4 f g :=
  ⟨_, _, _, _, n, ⟨rfl, rfl, rfl, rfl⟩, hf, hg⟩

theorem unit_q {N : Nat} (hN : 1000 ≤ N) {a b c d : Fl} (hall : allFin [a, b, c, d] = true) (hf : FinW [a, b, c, d]) {fr : Fl} {e : Int} (h0 : feq (mostF [a, b, c, d] 4) (some 0) = false)
    (he : ∀ κ : Fl → Int → Bool, s_q41 N (mostF [a, b, c, d] 4) κ = κ fr e) (he1 : -1200 ≤ e) (he2 : e ≤ 1200) (κ : K4) :
    s_quat_Unit N a b c d κ = (fun g => κ (fdiv (sclF a (1 - e)) g) (fdiv (sclF b (1 - e)) g) (fdiv (sclF c (1 - e)) g) (fdiv (sclF d (1 - e)) g) 0) (fsqrt (fadd (fadd (fadd (fadd (some 0) (fmul (sclF a (1 - e)) (sclF a (1 - e)))) (fmul (sclF b (1 - e)) (sclF b (1 - e)))) (fmul (sclF c (1 - e)) (sclF c (1 - e)))) (fmul (sclF d (1 - e)) (sclF d (1 - e))))) := by
  obtain ⟨a1, a2⟩ := hf 0 (Nat.le_of_ble_eq_true rfl)
  obtain ⟨b1, b2⟩ := hf 1 (Nat.le_of_ble_eq_true rfl)
  obtain ⟨c1, c2⟩ := hf 2 (Nat.le_of_ble_eq_true rfl)
  obtain ⟨d1, d2⟩ := hf 3 (Nat.le_of_ble_eq_true rfl)
  have hk : fits .i64 (1 - e) = true := fits_ok (by omega) (by omega)
  unfold s_quat_Unit G_quat_Unit
  rw [law_good hN, hall, Bool.not_true, cond_false]
  unfold s_quat_four G_quat_four
  simp only [s_m_Abs]
  have hm : fmm true (fmm true (fmm true (fmm true (some 0) (absF a)) (absF b)) (absF c)) (absF d) = mostF [a, b, c, d] 4 := rfl
  rw [hm, h0, cond_false, he, hk, Bool.true_and]
  refine (law_Ldexp N a1 a2 (by omega) (by omega) _).trans ?_
  rw [Bool.true_and]
  refine (law_Ldexp N b1 b2 (by omega) (by omega) _).trans ?_
  rw [Bool.true_and]
  refine (law_Ldexp N c1 c2 (by omega) (by omega) _).trans ?_
  rw [Bool.true_and]
  refine (law_Ldexp N d1 d2 (by omega) (by omega) _).trans ?_
  rfl
theorem unit_r {N : Nat} (hN : 1000 ≤ N) {a b c d : Fl} (hall : allFin [a, b, c, d] = true) (hf : FinW [a, b, c, d]) {fr : Fl} {e : Int} (h0 : feq (mostF [a, b, c, d] 4) (some 0) = false)
    (he : ∀ κ : Fl → Int → Bool, s_q41 N (mostF [a, b, c, d] 4) κ = κ fr e) (he1 : -1200 ≤ e) (he2 : e ≤ 1200) (κ : K4) :
    s_q50 N a b c d κ = (fun g => κ (fdiv (sclF a (1 - e)) g) (fdiv (sclF b (1 - e)) g) (fdiv (sclF c (1 - e)) g) (fdiv (sclF d (1 - e)) g) 0) (fsqrt (fadd (fadd (fadd (fmul (sclF a (1 - e)) (sclF a (1 - e))) (fmul (sclF b (1 - e)) (sclF b (1 - e)))) (fmul (sclF c (1 - e)) (sclF c (1 - e)))) (fmul (sclF d (1 - e)) (sclF d (1 - e))))) := by
  obtain ⟨a1, a2⟩ := hf 0 (Nat.le_of_ble_eq_true rfl)
  obtain ⟨b1, b2⟩ := hf 1 (Nat.le_of_ble_eq_true rfl)
  obtain ⟨c1, c2⟩ := hf 2 (Nat.le_of_ble_eq_true rfl)
  obtain ⟨d1, d2⟩ := hf 3 (Nat.le_of_ble_eq_true rfl)
  have hk : fits .i64 (1 - e) = true := fits_ok (by omega) (by omega)
  have hk2 : 0 - (e - 1) = 1 - e := by omega
  unfold s_q50 G_q50
  rw [law_Finite4 hN, hall]
  unfold s_q35 G_q35
  rw [Bool.not_true, cond_false]
  dsimp only
  rw [show ((0 : Int) != 0) = false from rfl, cond_false]
  unfold s_q62 G_q62
  refine (law_Power hN (le4 a b c d) _).trans ?_
  rw [show [a, b, c, d].length = 4 from rfl, h0, cond_false, he]
  rw [and_tr (fits_ok (by omega) (by omega)), Bool.not_true, cond_false]
  simp only [hk2, hk, Bool.true_and]
  refine (and_true_of (by rfl)).trans ?_
  refine (and_true_of (by rfl)).trans ?_
  refine (law_Times hN a1 a2 (by omega) (by omega) _).trans ?_
  generalize sclF ([a, b, c, d].getD 0 none) (1 - e) = ya
  refine (and_true_of (by rfl)).trans ?_
  refine (and_true_of (by rfl)).trans ?_
  refine (and_true_of (by rfl)).trans ?_
  refine (and_true_of (by rfl)).trans ?_
  refine (law_Times hN b1 b2 (by omega) (by omega) _).trans ?_
  refine (and_true_of (by rfl)).trans ?_
  refine (and_true_of (by rfl)).trans ?_
  refine (and_true_of (by rfl)).trans ?_
  refine (and_true_of (by rfl)).trans ?_
  refine (law_Times hN c1 c2 (by omega) (by omega) _).trans ?_
  refine (and_true_of (by rfl)).trans ?_
  refine (and_true_of (by rfl)).trans ?_
  refine (and_true_of (by rfl)).trans ?_
  refine (and_true_of (by rfl)).trans ?_
  refine (law_Times hN d1 d2 (by omega) (by omega) _).trans ?_
  kernel_rfl
theorem law_Unit {N : Nat} (hN : 1000 ≤ N) {a b c d : Fl} (ha : FW a) (hb : FW b) (hc : FW c) (hd : FW d) : Both4 (s_quat_Unit N a b c d) (s_q50 N a b c d) := by
  cases hall : allFin [a, b, c, d] with
  | false =>
    refine both_err (n := 4) (fun κ => ?_) (fun κ => ?_)
    · unfold s_quat_Unit G_quat_Unit
      rw [law_good hN, hall]; rfl
    · unfold s_q50 G_q50
      rw [law_Finite4 hN, hall]; rfl
  | true =>
    have hf := finW_of (FW4 ha hb hc hd) hall
    cases h0 : feq (mostF [a, b, c, d] 4) (some 0) with
    | true =>
      refine both_err (n := 120) (fun κ => ?_) (fun κ => ?_)
      · unfold s_quat_Unit G_quat_Unit
        rw [law_good hN, hall, Bool.not_true, cond_false]
        unfold s_quat_four G_quat_four
        simp only [s_m_Abs]
        have hm : fmm true (fmm true (fmm true (fmm true (some 0) (absF a)) (absF b)) (absF c)) (absF d) = mostF [a, b, c, d] 4 := rfl
        rw [hm, h0, cond_true]
      · unfold s_q50 G_q50
        rw [law_Finite4 hN, hall]
        unfold s_q35 G_q35
        rw [Bool.not_true, cond_false]
        dsimp only
        rw [show ((0 : Int) != 0) = false from rfl, cond_false]
        unfold s_q62 G_q62
        refine (law_Power hN (le4 a b c d) _).trans ?_
        rw [show [a, b, c, d].length = 4 from rfl, h0]; rfl
    | false =>
      obtain ⟨fr, e, he, he1, he2, hfin, j, hj, hge⟩ := scl_facts (N := N) hf h0
      have q := unit_q hN hall hf h0 he he1 he2
      have r := unit_r hN hall hf h0 he he1 he2
      have na : NN (fmul (sclF a (1 - e)) (sclF a (1 - e))) := NN_sclF (hf 0 (Nat.le_of_ble_eq_true rfl)).1 _
      have nb : NN (fmul (sclF b (1 - e)) (sclF b (1 - e))) := NN_sclF (hf 1 (Nat.le_of_ble_eq_true rfl)).1 _
      have nc : NN (fmul (sclF c (1 - e)) (sclF c (1 - e))) := NN_sclF (hf 2 (Nat.le_of_ble_eq_true rfl)).1 _
      have nd : NN (fmul (sclF d (1 - e)) (sclF d (1 - e))) := NN_sclF (hf 3 (Nat.le_of_ble_eq_true rfl)).1 _
      simp only [zero_fadd_NN na] at q
      have hg : GE1 (fadd (fadd (fadd (fmul (sclF a (1 - e)) (sclF a (1 - e))) (fmul (sclF b (1 - e)) (sclF b (1 - e)))) (fmul (sclF c (1 - e)) (sclF c (1 - e)))) (fmul (sclF d (1 - e)) (sclF d (1 - e)))) := by
        match j, hj, hge with
        | 0, _, h => exact GE1_fadd (GE1_fadd (GE1_fadd h nb) nc) nd
        | 1, _, h => exact GE1_fadd (GE1_fadd (GE1_fadd' na h) nc) nd
        | 2, _, h => exact GE1_fadd (GE1_fadd' (NN_fadd na nb) h) nd
        | 3, _, h => exact GE1_fadd' (NN_fadd (NN_fadd na nb) nc) h
      have hv := Dv_fsqrt hg
      exact ⟨_, _, _, _, 0, ⟨fdiv_some (hfin 0 (Nat.le_of_ble_eq_true rfl)) hv, fdiv_some (hfin 1 (Nat.le_of_ble_eq_true rfl)) hv, fdiv_some (hfin 2 (Nat.le_of_ble_eq_true rfl)) hv, fdiv_some (hfin 3 (Nat.le_of_ble_eq_true rfl)) hv⟩, q, r⟩

end Go.Proofs.YtldpkhfffeddiaaGreat
end
section
namespace Go.Proofs.YtldpkhfffeddiaaGreat
open Go Go.Mach Ieee
set_option linter.unusedVariables false
set_option maxRecDepth 4000

/-! ### the last step -/
def jq (N : Nat) (a b c d : Fl) (κ : K4) : Bool := cond (!allFin [a, b, c, d]) (κ (some 0) (some 0) (some 0) (some 0) 5) (s_quat_Unit N a b c d κ)
def jr (N : Nat) (L : List Fl) (t a b c d : Fl) (κ : K4) : Bool := J_q110 N (s_q37 N) (s_q96 N) (s_q32 N) (s_q18 N) (s_q9 N) (s_q50 N) 3 3 L t a b c d κ
theorem jq_eq {N : Nat} (hN : 1000 ≤ N) (m0 m1 : Int) (m2 : List Fl) (a b c d : Fl) (κ : K4) : J_quat_From_0 N (s_matrix_Check N) (s_quat_From_1_p0r N) (s_quat_finite N) (s_quat_told N) (s_quat_Unit N) m0 m1 m2 a b c d κ = jq N a b c d κ := by
  unfold J_quat_From_0 jq
  rw [law_told hN]
  cases allFin [a, b, c, d] <;> rfl
theorem jr_eq {N : Nat} (hN : 1000 ≤ N) (L : List Fl) (t a b c d : Fl) (κ : K4) : jr N L t a b c d κ = cond (!allFin [a, b, c, d]) (κ (some 0) (some 0) (some 0) (some 0) 5) (cond (!finF t) (κ (some 0) (some 0) (some 0) (some 0) 5) (s_q50 N a b c d κ)) := by
  unfold jr J_q110
  rw [law_Finite4 hN, law_ref_Finite]
  cases allFin [a, b, c, d] <;> cases finF t <;> rfl
theorem jr_nf {N : Nat} (hN : 1000 ≤ N) (L : List Fl) {t : Fl} (ht : finF t = false) (a b c d : Fl) (κ : K4) : jr N L t a b c d κ = κ (some 0) (some 0) (some 0) (some 0) 5 := by
  rw [jr_eq hN, ht]
  cases allFin [a, b, c, d] <;> rfl
theorem both_j {N : Nat} (hN : 1000 ≤ N) (L : List Fl) {t : Fl} (ht : finF t = true) {a b c d : Fl} (ha : FW a) (hb : FW b) (hc : FW c) (hd : FW d) : Both4 (jq N a b c d) (jr N L t a b c d) := by
  cases hall : allFin [a, b, c, d] with
  | false =>
    refine both_err (n := 5) (fun κ => ?_) (fun κ => ?_)
    · unfold jq; rw [hall]; rfl
    · rw [jr_eq hN, hall]; rfl
  | true =>
    obtain ⟨x, y, z, w, n, h, f, g⟩ := law_Unit hN ha hb hc hd
    refine ⟨x, y, z, w, n, h, fun κ => ?_, fun κ => ?_⟩
    · unfold jq; rw [hall]; exact f κ
    · rw [jr_eq hN, hall, ht]; exact g κ

/-! ### the matrix -/
theorem nine_chk {a0 a1 a2 a3 a4 a5 a6 a7 a8 : Fl} (h : allFin [a0, a1, a2, a3, a4, a5, a6, a7, a8] = true) : chk 3 3 [a0, a1, a2, a3, a4, a5, a6, a7, a8] = 0 := chk_zero.2 ⟨by decide, rfl, h⟩
theorem rd00 (N : Nat) (a0 a1 a2 a3 a4 a5 a6 a7 a8 : Fl) (κ : Fl → Bool) : s_quat_From_1_p0r N 0 0 3 3 [a0, a1, a2, a3, a4, a5, a6, a7, a8] κ = κ a0 := by kernel_rfl
theorem rd11 (N : Nat) (a0 a1 a2 a3 a4 a5 a6 a7 a8 : Fl) (κ : Fl → Bool) : s_quat_From_1_p0r N 1 1 3 3 [a0, a1, a2, a3, a4, a5, a6, a7, a8] κ = κ a4 := by kernel_rfl
theorem rd22 (N : Nat) (a0 a1 a2 a3 a4 a5 a6 a7 a8 : Fl) (κ : Fl → Bool) : s_quat_From_1_p0r N 2 2 3 3 [a0, a1, a2, a3, a4, a5, a6, a7, a8] κ = κ a8 := by kernel_rfl
theorem rd21 (N : Nat) (a0 a1 a2 a3 a4 a5 a6 a7 a8 : Fl) (κ : Fl → Bool) : s_quat_From_1_p0r N 2 1 3 3 [a0, a1, a2, a3, a4, a5, a6, a7, a8] κ = κ a7 := by kernel_rfl
theorem rd12 (N : Nat) (a0 a1 a2 a3 a4 a5 a6 a7 a8 : Fl) (κ : Fl → Bool) : s_quat_From_1_p0r N 1 2 3 3 [a0, a1, a2, a3, a4, a5, a6, a7, a8] κ = κ a5 := by kernel_rfl
theorem rd02 (N : Nat) (a0 a1 a2 a3 a4 a5 a6 a7 a8 : Fl) (κ : Fl → Bool) : s_quat_From_1_p0r N 0 2 3 3 [a0, a1, a2, a3, a4, a5, a6, a7, a8] κ = κ a2 := by kernel_rfl
theorem rd20 (N : Nat) (a0 a1 a2 a3 a4 a5 a6 a7 a8 : Fl) (κ : Fl → Bool) : s_quat_From_1_p0r N 2 0 3 3 [a0, a1, a2, a3, a4, a5, a6, a7, a8] κ = κ a6 := by kernel_rfl
theorem rd10 (N : Nat) (a0 a1 a2 a3 a4 a5 a6 a7 a8 : Fl) (κ : Fl → Bool) : s_quat_From_1_p0r N 1 0 3 3 [a0, a1, a2, a3, a4, a5, a6, a7, a8] κ = κ a3 := by kernel_rfl
theorem rd01 (N : Nat) (a0 a1 a2 a3 a4 a5 a6 a7 a8 : Fl) (κ : Fl → Bool) : s_quat_From_1_p0r N 0 1 3 3 [a0, a1, a2, a3, a4, a5, a6, a7, a8] κ = κ a1 := by kernel_rfl
theorem allFin_one {N : Nat} (hN : 1000 ≤ N) (x : Fl) (k : Bool → Bool) : s_quat_finite N [x] k = k (finF x) := by
  rw [law_quat_finite [x] (small_of hN (Nat.le_of_ble_eq_true rfl))]
  have : allFin [x] = finF x := by
    show (allN _ 1) = _
    rw [Bool.eq_iff_iff, allN_iff]
    constructor
    · intro h; exact h 0 (by decide)
    · intro h i hi
      have : i = 0 := by omega
      subst this; exact h
  rw [this]
theorem from_q {N : Nat} (hN : 1000 ≤ N) {a0 a1 a2 a3 a4 a5 a6 a7 a8 : Fl} (h : allFin [a0, a1, a2, a3, a4, a5, a6, a7, a8] = true) {t : Fl} (ht : (fadd (fadd a0 a4) a8) = t) (κ : K4) : s_quat_From N 3 3 [a0, a1, a2, a3, a4, a5, a6, a7, a8] κ = cond (!finF t) (κ (some 0) (some 0) (some 0) (some 0) 5) (cond (feq (fmm true (fmm true (fmm true t a0) a4) a8) t) (jq N (fadd (some 4607182418800017408) t) (fsub a7 a5) (fsub a2 a6) (fsub a3 a1) κ) (cond (feq (fmm true (fmm true (fmm true t a0) a4) a8) a0) (jq N (fsub a7 a5) (fsub (fsub (fadd (some 4607182418800017408) a0) a4) a8) (fadd a1 a3) (fadd a2 a6) κ) (cond (feq (fmm true (fmm true (fmm true t a0) a4) a8) a4) (jq N (fsub a2 a6) (fadd a1 a3) (fsub (fadd (fsub (some 4607182418800017408) a0) a4) a8) (fadd a5 a7) κ) (jq N (fsub a3 a1) (fadd a2 a6) (fadd a5 a7) (fadd (fsub (fsub (some 4607182418800017408) a0) a4) a8) κ)))) := by
  unfold s_quat_From G_quat_From
  rw [law_Check 3 3 _ (small_of hN (Nat.le_of_ble_eq_true rfl)), nine_chk h]
  rw [show ((0 : Int) != 0) = false from rfl, cond_false, show (((3 : Int) != 3) == false) = true from rfl, cond_true, show ((3 : Int) != 3) = false from rfl, cond_false]
  rw [rd00, rd11, rd22, ht, allFin_one hN]
  cases finF t
  · rfl
  · rw [Bool.not_true, cond_false, cond_false]
    rw [rd21, rd12, rd02, rd20, rd10, rd01, rd01, rd10, rd02, rd20, rd12, rd21]
    simp only [jq_eq hN]
theorem selB (p1 p2 p3 p4 p5 p6 A B C D : Bool) : (cond (p1 == true) (cond (p2 == true) (cond p3 A (cond (p4 == true) (cond p5 B (cond p6 C D)) (cond p6 C D))) (cond (p4 == true) (cond p5 B (cond p6 C D)) (cond p6 C D))) (cond (p4 == true) (cond p5 B (cond p6 C D)) (cond p6 C D))) = cond (p1 && (p2 && p3)) A (cond (p4 && p5) B (cond p6 C D)) := by
  cases p1 <;> cases p2 <;> cases p3 <;> cases p4 <;> cases p5 <;> cases p6 <;> rfl
def selR (N : Nat) (a0 a1 a2 a3 a4 a5 a6 a7 a8 t : Fl) (κ : K4) : Bool := (cond ((fge t a0) == true) (cond ((fge t a4) == true) (cond (fge t a8) (jr N [a0, a1, a2, a3, a4, a5, a6, a7, a8] t (fadd (some 4607182418800017408) t) (fsub a7 a5) (fsub a2 a6) (fsub a3 a1) κ) (cond ((fge a0 a4) == true) (cond (fge a0 a8) (jr N [a0, a1, a2, a3, a4, a5, a6, a7, a8] t (fsub a7 a5) (fsub (fsub (fadd (some 4607182418800017408) a0) a4) a8) (fadd a1 a3) (fadd a2 a6) κ) (cond (fge a4 a8) (jr N [a0, a1, a2, a3, a4, a5, a6, a7, a8] t (fsub a2 a6) (fadd a1 a3) (fsub (fadd (fsub (some 4607182418800017408) a0) a4) a8) (fadd a5 a7) κ) (jr N [a0, a1, a2, a3, a4, a5, a6, a7, a8] t (fsub a3 a1) (fadd a2 a6) (fadd a5 a7) (fadd (fsub (fsub (some 4607182418800017408) a0) a4) a8) κ))) (cond (fge a4 a8) (jr N [a0, a1, a2, a3, a4, a5, a6, a7, a8] t (fsub a2 a6) (fadd a1 a3) (fsub (fadd (fsub (some 4607182418800017408) a0) a4) a8) (fadd a5 a7) κ) (jr N [a0, a1, a2, a3, a4, a5, a6, a7, a8] t (fsub a3 a1) (fadd a2 a6) (fadd a5 a7) (fadd (fsub (fsub (some 4607182418800017408) a0) a4) a8) κ)))) (cond ((fge a0 a4) == true) (cond (fge a0 a8) (jr N [a0, a1, a2, a3, a4, a5, a6, a7, a8] t (fsub a7 a5) (fsub (fsub (fadd (some 4607182418800017408) a0) a4) a8) (fadd a1 a3) (fadd a2 a6) κ) (cond (fge a4 a8) (jr N [a0, a1, a2, a3, a4, a5, a6, a7, a8] t (fsub a2 a6) (fadd a1 a3) (fsub (fadd (fsub (some 4607182418800017408) a0) a4) a8) (fadd a5 a7) κ) (jr N [a0, a1, a2, a3, a4, a5, a6, a7, a8] t (fsub a3 a1) (fadd a2 a6) (fadd a5 a7) (fadd (fsub (fsub (some 4607182418800017408) a0) a4) a8) κ))) (cond (fge a4 a8) (jr N [a0, a1, a2, a3, a4, a5, a6, a7, a8] t (fsub a2 a6) (fadd a1 a3) (fsub (fadd (fsub (some 4607182418800017408) a0) a4) a8) (fadd a5 a7) κ) (jr N [a0, a1, a2, a3, a4, a5, a6, a7, a8] t (fsub a3 a1) (fadd a2 a6) (fadd a5 a7) (fadd (fsub (fsub (some 4607182418800017408) a0) a4) a8) κ)))) (cond ((fge a0 a4) == true) (cond (fge a0 a8) (jr N [a0, a1, a2, a3, a4, a5, a6, a7, a8] t (fsub a7 a5) (fsub (fsub (fadd (some 4607182418800017408) a0) a4) a8) (fadd a1 a3) (fadd a2 a6) κ) (cond (fge a4 a8) (jr N [a0, a1, a2, a3, a4, a5, a6, a7, a8] t (fsub a2 a6) (fadd a1 a3) (fsub (fadd (fsub (some 4607182418800017408) a0) a4) a8) (fadd a5 a7) κ) (jr N [a0, a1, a2, a3, a4, a5, a6, a7, a8] t (fsub a3 a1) (fadd a2 a6) (fadd a5 a7) (fadd (fsub (fsub (some 4607182418800017408) a0) a4) a8) κ))) (cond (fge a4 a8) (jr N [a0, a1, a2, a3, a4, a5, a6, a7, a8] t (fsub a2 a6) (fadd a1 a3) (fsub (fadd (fsub (some 4607182418800017408) a0) a4) a8) (fadd a5 a7) κ) (jr N [a0, a1, a2, a3, a4, a5, a6, a7, a8] t (fsub a3 a1) (fadd a2 a6) (fadd a5 a7) (fadd (fsub (fsub (some 4607182418800017408) a0) a4) a8) κ))))
theorem selR_eq (N : Nat) (a0 a1 a2 a3 a4 a5 a6 a7 a8 t : Fl) (κ : K4) : selR N a0 a1 a2 a3 a4 a5 a6 a7 a8 t κ = cond (fge t a0 && (fge t a4 && fge t a8)) (jr N [a0, a1, a2, a3, a4, a5, a6, a7, a8] t (fadd (some 4607182418800017408) t) (fsub a7 a5) (fsub a2 a6) (fsub a3 a1) κ) (cond (fge a0 a4 && fge a0 a8) (jr N [a0, a1, a2, a3, a4, a5, a6, a7, a8] t (fsub a7 a5) (fsub (fsub (fadd (some 4607182418800017408) a0) a4) a8) (fadd a1 a3) (fadd a2 a6) κ) (cond (fge a4 a8) (jr N [a0, a1, a2, a3, a4, a5, a6, a7, a8] t (fsub a2 a6) (fadd a1 a3) (fsub (fadd (fsub (some 4607182418800017408) a0) a4) a8) (fadd a5 a7) κ) (jr N [a0, a1, a2, a3, a4, a5, a6, a7, a8] t (fsub a3 a1) (fadd a2 a6) (fadd a5 a7) (fadd (fsub (fsub (some 4607182418800017408) a0) a4) a8) κ))) := by
  unfold selR
  exact selB (fge t a0) (fge t a4) (fge t a8) (fge a0 a4) (fge a0 a8) (fge a4 a8) (jr N [a0, a1, a2, a3, a4, a5, a6, a7, a8] t (fadd (some 4607182418800017408) t) (fsub a7 a5) (fsub a2 a6) (fsub a3 a1) κ) (jr N [a0, a1, a2, a3, a4, a5, a6, a7, a8] t (fsub a7 a5) (fsub (fsub (fadd (some 4607182418800017408) a0) a4) a8) (fadd a1 a3) (fadd a2 a6) κ) (jr N [a0, a1, a2, a3, a4, a5, a6, a7, a8] t (fsub a2 a6) (fadd a1 a3) (fsub (fadd (fsub (some 4607182418800017408) a0) a4) a8) (fadd a5 a7) κ) (jr N [a0, a1, a2, a3, a4, a5, a6, a7, a8] t (fsub a3 a1) (fadd a2 a6) (fadd a5 a7) (fadd (fsub (fsub (some 4607182418800017408) a0) a4) a8) κ)
theorem from_r {N : Nat} (hN : 1000 ≤ N) {a0 a1 a2 a3 a4 a5 a6 a7 a8 : Fl} (h : allFin [a0, a1, a2, a3, a4, a5, a6, a7, a8] = true) (κ : K4) : s_q89 N 3 3 [a0, a1, a2, a3, a4, a5, a6, a7, a8] κ = selR N a0 a1 a2 a3 a4 a5 a6 a7 a8 (fadd (fadd a0 a4) a8) κ := by
  unfold s_q89 G_q89
  rw [law_ref_Check 3 3 _ (small_of hN (Nat.le_of_ble_eq_true rfl)), nine_chk h]
  rw [show (((3 : Int) != 3) == false) = true from rfl, cond_true, show ((3 : Int) != 3) = false from rfl]
  unfold s_q96 G_q96
  rw [cond_false]
  refine (law_First2 0 0 (by omega) _).trans ?_
  rw [if_neg (by decide), show ((0 : Int) != 0) = false from rfl, cond_false]
  kernel_rfl
theorem law_From {N : Nat} (hN : 1000 ≤ N) {a0 a1 a2 a3 a4 a5 a6 a7 a8 : Fl} (h : allFin [a0, a1, a2, a3, a4, a5, a6, a7, a8] = true) : Both4 (s_quat_From N 3 3 [a0, a1, a2, a3, a4, a5, a6, a7, a8]) (s_q89 N 3 3 [a0, a1, a2, a3, a4, a5, a6, a7, a8]) := by
  generalize ht : (fadd (fadd a0 a4) a8) = t
  have q := from_q hN h ht
  have r := from_r hN h
  rw [ht] at r
  simp only [selR_eq] at r
  cases hf : finF t with
  | false =>
    refine both_err (n := 5) (fun κ => ?_) (fun κ => ?_)
    · rw [q, hf]; rfl
    · rw [r]
      simp only [jr_nf hN _ hf]
      cases (fge t a0 && (fge t a4 && fge t a8)) <;> cases (fge a0 a4 && fge a0 a8) <;> cases fge a4 a8 <;> rfl
  | true =>
    have f0 : finF a0 = true := allN_iff.1 h 0 (by show 0 < 9; decide)
    have f4 : finF a4 = true := allN_iff.1 h 4 (by show 4 < 9; decide)
    have f8 : finF a8 = true := allN_iff.1 h 8 (by show 8 < 9; decide)
    obtain ⟨m1, v1, -⟩ := fmm_vl hf f0
    obtain ⟨m2, v2, -⟩ := fmm_vl m1 f4
    obtain ⟨m3, v3, -⟩ := fmm_vl m2 f8
    simp only [feq_vl m3 hf, feq_vl m3 f0, feq_vl m3 f4, hf, Bool.not_true, cond_false, v3, v2, v1] at q
    simp only [fge_vl hf f0, fge_vl hf f4, fge_vl hf f8, fge_vl f0 f4, fge_vl f0 f8, fge_vl f4 f8] at r
    by_cases p1 : max (max (max (vl t) (vl a0)) (vl a4)) (vl a8) = vl t
    · have r1 : (decide (vl a0 ≤ vl t) && (decide (vl a4 ≤ vl t) && decide (vl a8 ≤ vl t))) = true := by
        rw [decide_eq_true (by omega), decide_eq_true (by omega), decide_eq_true (by omega)]; rfl
      simp only [decide_eq_true p1, cond_true] at q
      simp only [r1, cond_true] at r
      obtain ⟨x, y, z, w, n, hs, f, g⟩ := both_j hN [a0, a1, a2, a3, a4, a5, a6, a7, a8] hf (FW_fadd _ _) (FW_fsub _ _) (FW_fsub _ _) (FW_fsub _ _)
      exact ⟨x, y, z, w, n, hs, fun κ => (q κ).trans (f κ), fun κ => (r κ).trans (g κ)⟩
    · have r1 : (decide (vl a0 ≤ vl t) && (decide (vl a4 ≤ vl t) && decide (vl a8 ≤ vl t))) = false := by
        rw [Bool.eq_false_iff]
        intro hc
        simp only [Bool.and_eq_true, decide_eq_true_eq] at hc
        omega
      simp only [decide_eq_false p1, cond_false] at q
      simp only [r1, cond_false] at r
      by_cases p2 : max (max (max (vl t) (vl a0)) (vl a4)) (vl a8) = vl a0
      · have r2 : (decide (vl a4 ≤ vl a0) && decide (vl a8 ≤ vl a0)) = true := by
          rw [decide_eq_true (by omega), decide_eq_true (by omega)]; rfl
        simp only [decide_eq_true p2, cond_true] at q
        simp only [r2, cond_true] at r
        obtain ⟨x, y, z, w, n, hs, f, g⟩ := both_j hN [a0, a1, a2, a3, a4, a5, a6, a7, a8] hf (FW_fsub _ _) (FW_fsub _ _) (FW_fadd _ _) (FW_fadd _ _)
        exact ⟨x, y, z, w, n, hs, fun κ => (q κ).trans (f κ), fun κ => (r κ).trans (g κ)⟩
      · have r2 : (decide (vl a4 ≤ vl a0) && decide (vl a8 ≤ vl a0)) = false := by
          rw [Bool.eq_false_iff]
          intro hc
          simp only [Bool.and_eq_true, decide_eq_true_eq] at hc
          omega
        simp only [decide_eq_false p2, cond_false] at q
        simp only [r2, cond_false] at r
        by_cases p3 : max (max (max (vl t) (vl a0)) (vl a4)) (vl a8) = vl a4
        · have r3 : decide (vl a8 ≤ vl a4) = true := decide_eq_true (by omega)
          simp only [decide_eq_true p3, cond_true] at q
          simp only [r3, cond_true] at r
          obtain ⟨x, y, z, w, n, hs, f, g⟩ := both_j hN [a0, a1, a2, a3, a4, a5, a6, a7, a8] hf (FW_fsub _ _) (FW_fadd _ _) (FW_fsub _ _) (FW_fadd _ _)
          exact ⟨x, y, z, w, n, hs, fun κ => (q κ).trans (f κ), fun κ => (r κ).trans (g κ)⟩
        · have r3 : decide (vl a8 ≤ vl a4) = false := decide_eq_false (by omega)
          simp only [decide_eq_false p3, cond_false] at q
          simp only [r3, cond_false] at r
          obtain ⟨x, y, z, w, n, hs, f, g⟩ := both_j hN [a0, a1, a2, a3, a4, a5, a6, a7, a8] hf (FW_fsub _ _) (FW_fadd _ _) (FW_fadd _ _) (FW_fadd _ _)
          exact ⟨x, y, z, w, n, hs, fun κ => (q κ).trans (f κ), fun κ => (r κ).trans (g κ)⟩

end Go.Proofs.YtldpkhfffeddiaaGreat
end
section
namespace Go.Proofs.YtldpkhfffeddiaaGreat
open Go Go.Mach Ieee
set_option linter.unusedVariables false
set_option maxRecDepth 4000

/-! ### steps -/
theorem inf_abs {b : Nat} (hb : W64 b) {s : Bool} (h : Ieee.double.read b = .infinity s) : absF (some b) = some 9218868437227405312 := by
  unfold Format.read at h
  simp only [signWeight_d, binade_d, infRung_d] at h
  unfold W64 at hb
  split at h
  · cases h
  · split at h
    · cases h
    · split at h
      · rename_i h1 h2 h3
        show canon (b % 9223372036854775808) = _
        have : b % 9223372036854775808 = 9218868437227405312 := by omega
        rw [this]; decide
      · cases h
theorem law_Of {N : Nat} {x : Fl} (hw : FW x) (o : Bool) (k : Bool → Bool) : s_q52 N x o k = k (o || !finF x) := by
  unfold s_q52 G_q52
  cases hf : finF x with
  | true => rw [feq_refl hf, law_IsInf_fin N hf hw]; cases o <;> rfl
  | false =>
    rw [Bool.not_false, Bool.or_true]
    cases x with
    | none => rfl
    | some b =>
      cases hr : Ieee.double.read b with
      | number s m i => rw [finF_of hr] at hf; cases hf
      | nan s f =>
        have : feq (some b) (some b) = false := by rw [feq_w, hr]; rfl
        rw [this]; rfl
      | infinity s =>
        have h1 : feq (some b) (some b) = true := by rw [feq_w, hr]; cases s <;> rfl
        rw [h1]
        show s_q64 N (some b) 0 _ = _
        unfold s_q64 G_q64
        rw [show ((0 : Int) == 0) = true from rfl, cond_true]
        simp only [s_m_Abs]
        rw [inf_abs (hw b rfl) hr]
        have h2 : fgt (some 9218868437227405312) (some 9218868437227405311) = true := by decide
        rw [h2, cond_true]
theorem law_Sum (N : Nat) (x y : Fl) (o : Bool) (k : Bool → Bool) : s_q52 N (fadd x y) o k = k (o || !finF (fadd x y)) := law_Of (FW_fadd x y) o k
theorem law_Mul (N : Nat) (x y : Fl) (o : Bool) (k : Fl → Bool → Bool) : s_q36 N x y o k = k (fmul x y) (o || !finF (fmul x y)) := by
  unfold s_q36 G_q36
  rw [law_Of (FW_fmul x y)]
def ent (x u y v z w : Fl) : Fl := fadd (fadd (fmul x u) (fmul y v)) (fmul z w)
def ovr (o : Bool) (x u y v z w : Fl) : Bool := ((((o || !finF (fmul x u)) || !finF (fmul y v)) || !finF (fadd (fmul x u) (fmul y v))) || !finF (fmul z w)) || !finF (ent x u y v z w)
theorem ovr_fin {o : Bool} {x u y v z w : Fl} (h : ovr o x u y v z w = false) : o = false ∧ finF (ent x u y v z w) = true := by
  unfold ovr at h
  simp only [Bool.or_eq_false_iff, Bool.not_eq_false'] at h
  exact ⟨h.1.1.1.1.1, h.2⟩
theorem law_Put (N : Nat) (i j : Int) (n : Nat) (x : Fl) (L : List Fl) (hL : L.length = 9) (h1 : fits .i64 (i * 3) = true) (h2 : fits .i64 (i * 3 + j) = true) (h3 : i * 3 + j = n) (hn : n < 9) (k : List Fl → Bool) : s_q72 N 3 3 i j x L k = k (L.set n x) := by
  unfold s_q72 G_q72
  rw [h1, h2, Bool.true_and, Bool.true_and, h3, Int.toNat_natCast, hL, and_true_of (inR_of (by omega) (by omega)), and_true_of (dec_true hn)]
def ovrs (x0 x1 x2 x3 x4 x5 x6 x7 x8 x9 x10 x11 x12 x13 x14 x15 x16 x17 : Fl) : Bool := (ovr (ovr (ovr (ovr (ovr (ovr (ovr (ovr (ovr false x0 x9 x3 x12 x6 x15) x0 x10 x3 x13 x6 x16) x0 x11 x3 x14 x6 x17) x1 x9 x4 x12 x7 x15) x1 x10 x4 x13 x7 x16) x1 x11 x4 x14 x7 x17) x2 x9 x5 x12 x8 x15) x2 x10 x5 x13 x8 x16) x2 x11 x5 x14 x8 x17)
def ents (x0 x1 x2 x3 x4 x5 x6 x7 x8 x9 x10 x11 x12 x13 x14 x15 x16 x17 : Fl) : List Fl := [ent x0 x9 x3 x12 x6 x15, ent x0 x10 x3 x13 x6 x16, ent x0 x11 x3 x14 x6 x17, ent x1 x9 x4 x12 x7 x15, ent x1 x10 x4 x13 x7 x16, ent x1 x11 x4 x14 x7 x17, ent x2 x9 x5 x12 x8 x15, ent x2 x10 x5 x13 x8 x16, ent x2 x11 x5 x14 x8 x17]
theorem ents_fin {x0 x1 x2 x3 x4 x5 x6 x7 x8 x9 x10 x11 x12 x13 x14 x15 x16 x17 : Fl} (h : ovrs x0 x1 x2 x3 x4 x5 x6 x7 x8 x9 x10 x11 x12 x13 x14 x15 x16 x17 = false) : allFin (ents x0 x1 x2 x3 x4 x5 x6 x7 x8 x9 x10 x11 x12 x13 x14 x15 x16 x17) = true := by
  obtain ⟨h, f8⟩ := ovr_fin h
  obtain ⟨h, f7⟩ := ovr_fin h
  obtain ⟨h, f6⟩ := ovr_fin h
  obtain ⟨h, f5⟩ := ovr_fin h
  obtain ⟨h, f4⟩ := ovr_fin h
  obtain ⟨h, f3⟩ := ovr_fin h
  obtain ⟨h, f2⟩ := ovr_fin h
  obtain ⟨h, f1⟩ := ovr_fin h
  obtain ⟨h, f0⟩ := ovr_fin h
  refine allN_iff.2 fun i hi => ?_
  have hi : i < 9 := hi
  match i, hi with
  | 0, _ => exact f0
  | 1, _ => exact f1
  | 2, _ => exact f2
  | 3, _ => exact f3
  | 4, _ => exact f4
  | 5, _ => exact f5
  | 6, _ => exact f6
  | 7, _ => exact f7
  | 8, _ => exact f8
def chQ (N : Nat) (x0 x1 x2 x3 x4 x5 x6 x7 x8 x9 x10 x11 x12 x13 x14 x15 x16 x17 : Fl) (κ : K4) : Bool := (s_q36 N x0 x9 false (fun (xr_18 : Fl) (cr : Bool) => (s_q36 N x3 x12 cr (fun (xr_19 : Fl) (cr_1 : Bool) => (s_q52 N (fadd xr_18 xr_19) cr_1 (fun (cr_2 : Bool) => (s_q36 N x6 x15 cr_2 (fun (xr_20 : Fl) (cr_3 : Bool) => (s_q52 N (fadd (fadd xr_18 xr_19) xr_20) cr_3 (fun (cr_4 : Bool) => (s_q36 N x0 x10 cr_4 (fun (xr_21 : Fl) (cr_5 : Bool) => (s_q36 N x3 x13 cr_5 (fun (xr_22 : Fl) (cr_6 : Bool) => (s_q52 N (fadd xr_21 xr_22) cr_6 (fun (cr_7 : Bool) => (s_q36 N x6 x16 cr_7 (fun (xr_23 : Fl) (cr_8 : Bool) => (s_q52 N (fadd (fadd xr_21 xr_22) xr_23) cr_8 (fun (cr_9 : Bool) => (s_q36 N x0 x11 cr_9 (fun (xr_24 : Fl) (cr_10 : Bool) => (s_q36 N x3 x14 cr_10 (fun (xr_25 : Fl) (cr_11 : Bool) => (s_q52 N (fadd xr_24 xr_25) cr_11 (fun (cr_12 : Bool) => (s_q36 N x6 x17 cr_12 (fun (xr_26 : Fl) (cr_13 : Bool) => (s_q52 N (fadd (fadd xr_24 xr_25) xr_26) cr_13 (fun (cr_14 : Bool) => (s_q36 N x1 x9 cr_14 (fun (xr_27 : Fl) (cr_15 : Bool) => (s_q36 N x4 x12 cr_15 (fun (xr_28 : Fl) (cr_16 : Bool) => (s_q52 N (fadd xr_27 xr_28) cr_16 (fun (cr_17 : Bool) => (s_q36 N x7 x15 cr_17 (fun (xr_29 : Fl) (cr_18 : Bool) => (s_q52 N (fadd (fadd xr_27 xr_28) xr_29) cr_18 (fun (cr_19 : Bool) => (s_q36 N x1 x10 cr_19 (fun (xr_30 : Fl) (cr_20 : Bool) => (s_q36 N x4 x13 cr_20 (fun (xr_31 : Fl) (cr_21 : Bool) => (s_q52 N (fadd xr_30 xr_31) cr_21 (fun (cr_22 : Bool) => (s_q36 N x7 x16 cr_22 (fun (xr_32 : Fl) (cr_23 : Bool) => (s_q52 N (fadd (fadd xr_30 xr_31) xr_32) cr_23 (fun (cr_24 : Bool) => (s_q36 N x1 x11 cr_24 (fun (xr_33 : Fl) (cr_25 : Bool) => (s_q36 N x4 x14 cr_25 (fun (xr_34 : Fl) (cr_26 : Bool) => (s_q52 N (fadd xr_33 xr_34) cr_26 (fun (cr_27 : Bool) => (s_q36 N x7 x17 cr_27 (fun (xr_35 : Fl) (cr_28 : Bool) => (s_q52 N (fadd (fadd xr_33 xr_34) xr_35) cr_28 (fun (cr_29 : Bool) => (s_q36 N x2 x9 cr_29 (fun (xr_36 : Fl) (cr_30 : Bool) => (s_q36 N x5 x12 cr_30 (fun (xr_37 : Fl) (cr_31 : Bool) => (s_q52 N (fadd xr_36 xr_37) cr_31 (fun (cr_32 : Bool) => (s_q36 N x8 x15 cr_32 (fun (xr_38 : Fl) (cr_33 : Bool) => (s_q52 N (fadd (fadd xr_36 xr_37) xr_38) cr_33 (fun (cr_34 : Bool) => (s_q36 N x2 x10 cr_34 (fun (xr_39 : Fl) (cr_35 : Bool) => (s_q36 N x5 x13 cr_35 (fun (xr_40 : Fl) (cr_36 : Bool) => (s_q52 N (fadd xr_39 xr_40) cr_36 (fun (cr_37 : Bool) => (s_q36 N x8 x16 cr_37 (fun (xr_41 : Fl) (cr_38 : Bool) => (s_q52 N (fadd (fadd xr_39 xr_40) xr_41) cr_38 (fun (cr_39 : Bool) => (s_q36 N x2 x11 cr_39 (fun (xr_42 : Fl) (cr_40 : Bool) => (s_q36 N x5 x14 cr_40 (fun (xr_43 : Fl) (cr_41 : Bool) => (s_q52 N (fadd xr_42 xr_43) cr_41 (fun (cr_42 : Bool) => (s_q36 N x8 x17 cr_42 (fun (xr_44 : Fl) (cr_43 : Bool) => (s_q52 N (fadd (fadd xr_42 xr_43) xr_44) cr_43 (fun (cr_44 : Bool) => (s_q81 N cr_44 (cond cr_44 (κ (some 0) (some 0) (some 0) (some 0) 5) (s_quat_From N 3 3 ((((((((([] ++ [(fadd (fadd xr_18 xr_19) xr_20)]) ++ [(fadd (fadd xr_21 xr_22) xr_23)]) ++ [(fadd (fadd xr_24 xr_25) xr_26)]) ++ [(fadd (fadd xr_27 xr_28) xr_29)]) ++ [(fadd (fadd xr_30 xr_31) xr_32)]) ++ [(fadd (fadd xr_33 xr_34) xr_35)]) ++ [(fadd (fadd xr_36 xr_37) xr_38)]) ++ [(fadd (fadd xr_39 xr_40) xr_41)]) ++ [(fadd (fadd xr_42 xr_43) xr_44)]) (fun (xr_45 : Fl) (xr_46 : Fl) (xr_47 : Fl) (xr_48 : Fl) (nr_6 : Int) => (κ xr_45 xr_46 xr_47 xr_48 nr_6)))))))))))))))))))))))))))))))))))))))))))))))))))))))))))))))))))))))))))))))))))))))))))))))
def chR (N : Nat) (x0 x1 x2 x3 x4 x5 x6 x7 x8 x9 x10 x11 x12 x13 x14 x15 x16 x17 : Fl) (κ : K4) : Bool := (s_q105 N 3 3 (fun (xsr : List Fl) => (s_q51 N (fmul x0 x9) false (fun (cr : Bool) => (s_q51 N (fmul x3 x12) cr (fun (cr_1 : Bool) => (s_q51 N (fadd (fmul x0 x9) (fmul x3 x12)) cr_1 (fun (cr_2 : Bool) => (s_q51 N (fmul x6 x15) cr_2 (fun (cr_3 : Bool) => (s_q51 N (fadd (fadd (fmul x0 x9) (fmul x3 x12)) (fmul x6 x15)) cr_3 (fun (cr_4 : Bool) => (s_q72 N 3 3 0 0 (fadd (fadd (fmul x0 x9) (fmul x3 x12)) (fmul x6 x15)) xsr (fun (xsr_1 : List Fl) => (s_q51 N (fmul x0 x10) cr_4 (fun (cr_5 : Bool) => (s_q51 N (fmul x3 x13) cr_5 (fun (cr_6 : Bool) => (s_q51 N (fadd (fmul x0 x10) (fmul x3 x13)) cr_6 (fun (cr_7 : Bool) => (s_q51 N (fmul x6 x16) cr_7 (fun (cr_8 : Bool) => (s_q51 N (fadd (fadd (fmul x0 x10) (fmul x3 x13)) (fmul x6 x16)) cr_8 (fun (cr_9 : Bool) => (s_q72 N 3 3 0 1 (fadd (fadd (fmul x0 x10) (fmul x3 x13)) (fmul x6 x16)) xsr_1 (fun (xsr_2 : List Fl) => (s_q51 N (fmul x0 x11) cr_9 (fun (cr_10 : Bool) => (s_q51 N (fmul x3 x14) cr_10 (fun (cr_11 : Bool) => (s_q51 N (fadd (fmul x0 x11) (fmul x3 x14)) cr_11 (fun (cr_12 : Bool) => (s_q51 N (fmul x6 x17) cr_12 (fun (cr_13 : Bool) => (s_q51 N (fadd (fadd (fmul x0 x11) (fmul x3 x14)) (fmul x6 x17)) cr_13 (fun (cr_14 : Bool) => (s_q72 N 3 3 0 2 (fadd (fadd (fmul x0 x11) (fmul x3 x14)) (fmul x6 x17)) xsr_2 (fun (xsr_3 : List Fl) => (s_q51 N (fmul x1 x9) cr_14 (fun (cr_15 : Bool) => (s_q51 N (fmul x4 x12) cr_15 (fun (cr_16 : Bool) => (s_q51 N (fadd (fmul x1 x9) (fmul x4 x12)) cr_16 (fun (cr_17 : Bool) => (s_q51 N (fmul x7 x15) cr_17 (fun (cr_18 : Bool) => (s_q51 N (fadd (fadd (fmul x1 x9) (fmul x4 x12)) (fmul x7 x15)) cr_18 (fun (cr_19 : Bool) => (s_q72 N 3 3 1 0 (fadd (fadd (fmul x1 x9) (fmul x4 x12)) (fmul x7 x15)) xsr_3 (fun (xsr_4 : List Fl) => (s_q51 N (fmul x1 x10) cr_19 (fun (cr_20 : Bool) => (s_q51 N (fmul x4 x13) cr_20 (fun (cr_21 : Bool) => (s_q51 N (fadd (fmul x1 x10) (fmul x4 x13)) cr_21 (fun (cr_22 : Bool) => (s_q51 N (fmul x7 x16) cr_22 (fun (cr_23 : Bool) => (s_q51 N (fadd (fadd (fmul x1 x10) (fmul x4 x13)) (fmul x7 x16)) cr_23 (fun (cr_24 : Bool) => (s_q72 N 3 3 1 1 (fadd (fadd (fmul x1 x10) (fmul x4 x13)) (fmul x7 x16)) xsr_4 (fun (xsr_5 : List Fl) => (s_q51 N (fmul x1 x11) cr_24 (fun (cr_25 : Bool) => (s_q51 N (fmul x4 x14) cr_25 (fun (cr_26 : Bool) => (s_q51 N (fadd (fmul x1 x11) (fmul x4 x14)) cr_26 (fun (cr_27 : Bool) => (s_q51 N (fmul x7 x17) cr_27 (fun (cr_28 : Bool) => (s_q51 N (fadd (fadd (fmul x1 x11) (fmul x4 x14)) (fmul x7 x17)) cr_28 (fun (cr_29 : Bool) => (s_q72 N 3 3 1 2 (fadd (fadd (fmul x1 x11) (fmul x4 x14)) (fmul x7 x17)) xsr_5 (fun (xsr_6 : List Fl) => (s_q51 N (fmul x2 x9) cr_29 (fun (cr_30 : Bool) => (s_q51 N (fmul x5 x12) cr_30 (fun (cr_31 : Bool) => (s_q51 N (fadd (fmul x2 x9) (fmul x5 x12)) cr_31 (fun (cr_32 : Bool) => (s_q51 N (fmul x8 x15) cr_32 (fun (cr_33 : Bool) => (s_q51 N (fadd (fadd (fmul x2 x9) (fmul x5 x12)) (fmul x8 x15)) cr_33 (fun (cr_34 : Bool) => (s_q72 N 3 3 2 0 (fadd (fadd (fmul x2 x9) (fmul x5 x12)) (fmul x8 x15)) xsr_6 (fun (xsr_7 : List Fl) => (s_q51 N (fmul x2 x10) cr_34 (fun (cr_35 : Bool) => (s_q51 N (fmul x5 x13) cr_35 (fun (cr_36 : Bool) => (s_q51 N (fadd (fmul x2 x10) (fmul x5 x13)) cr_36 (fun (cr_37 : Bool) => (s_q51 N (fmul x8 x16) cr_37 (fun (cr_38 : Bool) => (s_q51 N (fadd (fadd (fmul x2 x10) (fmul x5 x13)) (fmul x8 x16)) cr_38 (fun (cr_39 : Bool) => (s_q72 N 3 3 2 1 (fadd (fadd (fmul x2 x10) (fmul x5 x13)) (fmul x8 x16)) xsr_7 (fun (xsr_8 : List Fl) => (s_q51 N (fmul x2 x11) cr_39 (fun (cr_40 : Bool) => (s_q51 N (fmul x5 x14) cr_40 (fun (cr_41 : Bool) => (s_q51 N (fadd (fmul x2 x11) (fmul x5 x14)) cr_41 (fun (cr_42 : Bool) => (s_q51 N (fmul x8 x17) cr_42 (fun (cr_43 : Bool) => (s_q51 N (fadd (fadd (fmul x2 x11) (fmul x5 x14)) (fmul x8 x17)) cr_43 (fun (cr_44 : Bool) => (s_q72 N 3 3 2 2 (fadd (fadd (fmul x2 x11) (fmul x5 x14)) (fmul x8 x17)) xsr_8 (fun (xsr_9 : List Fl) => (cond cr_44 (κ (some 0) (some 0) (some 0) (some 0) 5) (s_q89 N 3 3 xsr_9 (fun (xr_18 : Fl) (xr_19 : Fl) (xr_20 : Fl) (xr_21 : Fl) (nr_6 : Int) => (κ xr_18 xr_19 xr_20 xr_21 nr_6))))))))))))))))))))))))))))))))))))))))))))))))))))))))))))))))))))))))))))))))))))))))))))))))))))))))))))))))))
theorem chQ_eq (N : Nat) (x0 x1 x2 x3 x4 x5 x6 x7 x8 x9 x10 x11 x12 x13 x14 x15 x16 x17 : Fl) (κ : K4) : chQ N x0 x1 x2 x3 x4 x5 x6 x7 x8 x9 x10 x11 x12 x13 x14 x15 x16 x17 κ = cond (ovrs x0 x1 x2 x3 x4 x5 x6 x7 x8 x9 x10 x11 x12 x13 x14 x15 x16 x17) (κ (some 0) (some 0) (some 0) (some 0) 5) (s_quat_From N 3 3 (ents x0 x1 x2 x3 x4 x5 x6 x7 x8 x9 x10 x11 x12 x13 x14 x15 x16 x17) κ) := by
  unfold chQ
  refine (law_Mul N _ _ _ _).trans ?_
  refine (law_Mul N _ _ _ _).trans ?_
  refine (law_Sum N _ _ _ _).trans ?_
  refine (law_Mul N _ _ _ _).trans ?_
  refine (law_Sum N _ _ _ _).trans ?_
  refine (law_Mul N _ _ _ _).trans ?_
  refine (law_Mul N _ _ _ _).trans ?_
  refine (law_Sum N _ _ _ _).trans ?_
  refine (law_Mul N _ _ _ _).trans ?_
  refine (law_Sum N _ _ _ _).trans ?_
  refine (law_Mul N _ _ _ _).trans ?_
  refine (law_Mul N _ _ _ _).trans ?_
  refine (law_Sum N _ _ _ _).trans ?_
  refine (law_Mul N _ _ _ _).trans ?_
  refine (law_Sum N _ _ _ _).trans ?_
  refine (law_Mul N _ _ _ _).trans ?_
  refine (law_Mul N _ _ _ _).trans ?_
  refine (law_Sum N _ _ _ _).trans ?_
  refine (law_Mul N _ _ _ _).trans ?_
  refine (law_Sum N _ _ _ _).trans ?_
  refine (law_Mul N _ _ _ _).trans ?_
  refine (law_Mul N _ _ _ _).trans ?_
  refine (law_Sum N _ _ _ _).trans ?_
  refine (law_Mul N _ _ _ _).trans ?_
  refine (law_Sum N _ _ _ _).trans ?_
  refine (law_Mul N _ _ _ _).trans ?_
  refine (law_Mul N _ _ _ _).trans ?_
  refine (law_Sum N _ _ _ _).trans ?_
  refine (law_Mul N _ _ _ _).trans ?_
  refine (law_Sum N _ _ _ _).trans ?_
  refine (law_Mul N _ _ _ _).trans ?_
  refine (law_Mul N _ _ _ _).trans ?_
  refine (law_Sum N _ _ _ _).trans ?_
  refine (law_Mul N _ _ _ _).trans ?_
  refine (law_Sum N _ _ _ _).trans ?_
  refine (law_Mul N _ _ _ _).trans ?_
  refine (law_Mul N _ _ _ _).trans ?_
  refine (law_Sum N _ _ _ _).trans ?_
  refine (law_Mul N _ _ _ _).trans ?_
  refine (law_Sum N _ _ _ _).trans ?_
  refine (law_Mul N _ _ _ _).trans ?_
  refine (law_Mul N _ _ _ _).trans ?_
  refine (law_Sum N _ _ _ _).trans ?_
  refine (law_Mul N _ _ _ _).trans ?_
  refine (law_Sum N _ _ _ _).trans ?_
  rfl
theorem chR_eq (N : Nat) (x0 x1 x2 x3 x4 x5 x6 x7 x8 x9 x10 x11 x12 x13 x14 x15 x16 x17 : Fl) (κ : K4) : chR N x0 x1 x2 x3 x4 x5 x6 x7 x8 x9 x10 x11 x12 x13 x14 x15 x16 x17 κ = cond (ovrs x0 x1 x2 x3 x4 x5 x6 x7 x8 x9 x10 x11 x12 x13 x14 x15 x16 x17) (κ (some 0) (some 0) (some 0) (some 0) 5) (s_q89 N 3 3 (ents x0 x1 x2 x3 x4 x5 x6 x7 x8 x9 x10 x11 x12 x13 x14 x15 x16 x17) κ) := by
  unfold chR
  have hz : ∀ k, s_q105 N 3 3 k = k (List.replicate 9 (some 0)) := fun k => by kernel_rfl
  rw [hz]
  refine (law_S N _ _ _).trans ?_
  refine (law_S N _ _ _).trans ?_
  refine (law_S N _ _ _).trans ?_
  refine (law_S N _ _ _).trans ?_
  refine (law_S N _ _ _).trans ?_
  refine (law_Put N 0 0 0 _ _ (by rfl) (by decide) (by decide) (by decide) (by decide) _).trans ?_
  refine (law_S N _ _ _).trans ?_
  refine (law_S N _ _ _).trans ?_
  refine (law_S N _ _ _).trans ?_
  refine (law_S N _ _ _).trans ?_
  refine (law_S N _ _ _).trans ?_
  refine (law_Put N 0 1 1 _ _ (by rfl) (by decide) (by decide) (by decide) (by decide) _).trans ?_
  refine (law_S N _ _ _).trans ?_
  refine (law_S N _ _ _).trans ?_
  refine (law_S N _ _ _).trans ?_
  refine (law_S N _ _ _).trans ?_
  refine (law_S N _ _ _).trans ?_
  refine (law_Put N 0 2 2 _ _ (by rfl) (by decide) (by decide) (by decide) (by decide) _).trans ?_
  refine (law_S N _ _ _).trans ?_
  refine (law_S N _ _ _).trans ?_
  refine (law_S N _ _ _).trans ?_
  refine (law_S N _ _ _).trans ?_
  refine (law_S N _ _ _).trans ?_
  refine (law_Put N 1 0 3 _ _ (by rfl) (by decide) (by decide) (by decide) (by decide) _).trans ?_
  refine (law_S N _ _ _).trans ?_
  refine (law_S N _ _ _).trans ?_
  refine (law_S N _ _ _).trans ?_
  refine (law_S N _ _ _).trans ?_
  refine (law_S N _ _ _).trans ?_
  refine (law_Put N 1 1 4 _ _ (by rfl) (by decide) (by decide) (by decide) (by decide) _).trans ?_
  refine (law_S N _ _ _).trans ?_
  refine (law_S N _ _ _).trans ?_
  refine (law_S N _ _ _).trans ?_
  refine (law_S N _ _ _).trans ?_
  refine (law_S N _ _ _).trans ?_
  refine (law_Put N 1 2 5 _ _ (by rfl) (by decide) (by decide) (by decide) (by decide) _).trans ?_
  refine (law_S N _ _ _).trans ?_
  refine (law_S N _ _ _).trans ?_
  refine (law_S N _ _ _).trans ?_
  refine (law_S N _ _ _).trans ?_
  refine (law_S N _ _ _).trans ?_
  refine (law_Put N 2 0 6 _ _ (by rfl) (by decide) (by decide) (by decide) (by decide) _).trans ?_
  refine (law_S N _ _ _).trans ?_
  refine (law_S N _ _ _).trans ?_
  refine (law_S N _ _ _).trans ?_
  refine (law_S N _ _ _).trans ?_
  refine (law_S N _ _ _).trans ?_
  refine (law_Put N 2 1 7 _ _ (by rfl) (by decide) (by decide) (by decide) (by decide) _).trans ?_
  refine (law_S N _ _ _).trans ?_
  refine (law_S N _ _ _).trans ?_
  refine (law_S N _ _ _).trans ?_
  refine (law_S N _ _ _).trans ?_
  refine (law_S N _ _ _).trans ?_
  refine (law_Put N 2 2 8 _ _ (by rfl) (by decide) (by decide) (by decide) (by decide) _).trans ?_
  rfl
theorem both_ch {N : Nat} (hN : 1000 ≤ N) (x0 x1 x2 x3 x4 x5 x6 x7 x8 x9 x10 x11 x12 x13 x14 x15 x16 x17 : Fl) : Both4 (chQ N x0 x1 x2 x3 x4 x5 x6 x7 x8 x9 x10 x11 x12 x13 x14 x15 x16 x17) (chR N x0 x1 x2 x3 x4 x5 x6 x7 x8 x9 x10 x11 x12 x13 x14 x15 x16 x17) := by
  cases h : ovrs x0 x1 x2 x3 x4 x5 x6 x7 x8 x9 x10 x11 x12 x13 x14 x15 x16 x17 with
  | true => exact both_err (n := 5) (fun κ => by rw [chQ_eq, h, cond_true]) (fun κ => by rw [chR_eq, h, cond_true])
  | false =>
    obtain ⟨x, y, z, w, n, hs, f, g⟩ := law_From hN (ents_fin h)
    exact ⟨x, y, z, w, n, hs, fun κ => by rw [chQ_eq, h, cond_false]; exact f κ, fun κ => by rw [chR_eq, h, cond_false]; exact g κ⟩
theorem law_Triad {N : Nat} (hN : 1000 ≤ N) {a0 a1 a2 b0 b1 b2 c0 c1 c2 d0 d1 d2 : Fl} (ha0 : FW a0) (ha1 : FW a1) (ha2 : FW a2) (hc0 : FW c0) (hc1 : FW c1) (hc2 : FW c2) : Both4 (s_q80 N a0 a1 a2 b0 b1 b2 c0 c1 c2 d0 d1 d2) (s_q69 N a0 a1 a2 b0 b1 b2 c0 c1 c2 d0 d1 d2) := by
  have n0 : ((0 : Int) != 0) = false := rfl
  by_cases e0 : dirE a0 a1 a2 ≠ 0
  · have hb : (dirE a0 a1 a2 != 0) = true := by rw [bne_iff_ne]; exact e0
    refine both_err (n := dirE a0 a1 a2) (fun κ => ?_) (fun κ => ?_)
    · unfold s_q80 G_q80; rw [law_dir hN, hb, cond_true]
    · unfold s_q69 G_q69; rw [law_direction hN, hb, cond_true]
  have e0 := Decidable.not_not.1 e0
  by_cases e1 : dirE b0 b1 b2 ≠ 0
  · have hb : (dirE b0 b1 b2 != 0) = true := by rw [bne_iff_ne]; exact e1
    refine both_err (n := dirE b0 b1 b2) (fun κ => ?_) (fun κ => ?_)
    · unfold s_q80 G_q80; rw [law_dir hN, e0, n0, cond_false, law_dir hN, hb, cond_true]
    · unfold s_q69 G_q69; rw [law_direction hN, e0, n0, cond_false, law_direction hN, hb, cond_true]
  have e1 := Decidable.not_not.1 e1
  by_cases e2 : dirE c0 c1 c2 ≠ 0
  · have hb : (dirE c0 c1 c2 != 0) = true := by rw [bne_iff_ne]; exact e2
    refine both_err (n := dirE c0 c1 c2) (fun κ => ?_) (fun κ => ?_)
    · unfold s_q80 G_q80; rw [law_dir hN, e0, n0, cond_false, law_dir hN, e1, n0, cond_false, law_dir hN, hb, cond_true]
    · unfold s_q69 G_q69; rw [law_direction hN, e0, n0, cond_false, law_direction hN, e1, n0, cond_false, law_direction hN, hb, cond_true]
  have e2 := Decidable.not_not.1 e2
  by_cases e3 : dirE d0 d1 d2 ≠ 0
  · have hb : (dirE d0 d1 d2 != 0) = true := by rw [bne_iff_ne]; exact e3
    refine both_err (n := dirE d0 d1 d2) (fun κ => ?_) (fun κ => ?_)
    · unfold s_q80 G_q80; rw [law_dir hN, e0, n0, cond_false, law_dir hN, e1, n0, cond_false, law_dir hN, e2, n0, cond_false, law_dir hN, hb, cond_true]
    · unfold s_q69 G_q69; rw [law_direction hN, e0, n0, cond_false, law_direction hN, e1, n0, cond_false, law_direction hN, e2, n0, cond_false, law_direction hN, hb, cond_true]
  have e3 := Decidable.not_not.1 e3
  rcases law_axes hN (p := b0) (q := b1) (r := b2) ha0 ha1 ha2 with ⟨n, hb, ⟨p0, p1, p2, p3, p4, p5, p6, p7, p8, f1⟩, ⟨q0, q1, q2, q3, q4, q5, q6, q7, q8, g1⟩⟩ | ⟨x0, x1, x2, x3, x4, x5, x6, x7, x8, f1, g1⟩
  · refine both_err (n := n) (fun κ => ?_) (fun κ => ?_)
    · unfold s_q80 G_q80; rw [law_dir hN, e0, n0, cond_false, law_dir hN, e1, n0, cond_false, law_dir hN, e2, n0, cond_false, law_dir hN, e3, n0, cond_false, f1, hb, cond_true]
    · unfold s_q69 G_q69; rw [law_direction hN, e0, n0, cond_false, law_direction hN, e1, n0, cond_false, law_direction hN, e2, n0, cond_false, law_direction hN, e3, n0, cond_false, g1, hb, cond_true]
  rcases law_axes hN (p := d0) (q := d1) (r := d2) hc0 hc1 hc2 with ⟨n, hb, ⟨p0, p1, p2, p3, p4, p5, p6, p7, p8, f2⟩, ⟨q0, q1, q2, q3, q4, q5, q6, q7, q8, g2⟩⟩ | ⟨x9, x10, x11, x12, x13, x14, x15, x16, x17, f2, g2⟩
  · refine both_err (n := n) (fun κ => ?_) (fun κ => ?_)
    · unfold s_q80 G_q80; rw [law_dir hN, e0, n0, cond_false, law_dir hN, e1, n0, cond_false, law_dir hN, e2, n0, cond_false, law_dir hN, e3, n0, cond_false, f1, n0, cond_false, f2, hb, cond_true]
    · unfold s_q69 G_q69; rw [law_direction hN, e0, n0, cond_false, law_direction hN, e1, n0, cond_false, law_direction hN, e2, n0, cond_false, law_direction hN, e3, n0, cond_false, g1, n0, cond_false, g2, hb, cond_true]
  obtain ⟨x, y, z, w, n, hs, f, g⟩ := both_ch hN x0 x1 x2 x3 x4 x5 x6 x7 x8 x9 x10 x11 x12 x13 x14 x15 x16 x17
  refine ⟨x, y, z, w, n, hs, fun κ => ?_, fun κ => ?_⟩
  · unfold s_q80 G_q80; rw [law_dir hN, e0, n0, cond_false, law_dir hN, e1, n0, cond_false, law_dir hN, e2, n0, cond_false, law_dir hN, e3, n0, cond_false, f1, n0, cond_false, f2, n0, cond_false]
    exact f κ
  · unfold s_q69 G_q69; rw [law_direction hN, e0, n0, cond_false, law_direction hN, e1, n0, cond_false, law_direction hN, e2, n0, cond_false, law_direction hN, e3, n0, cond_false, g1, n0, cond_false, g2, n0, cond_false]
    exact g κ

/-! ### the comparison -/
theorem law_bits {N : Nat} (hN : 1000 ≤ N) {L : List Fl} (hl : L.length ≤ 48) (h : ∀ i, i < L.length → (L.getD i none).isSome = true) (k : Bool → Bool) : s_q97 N L L k = k true := by
  unfold s_q97 G_q97
  rw [show (((L.length : Nat) : Int) != ((L.length : Nat) : Int)) = false by rw [bne_self_eq_false], cond_false]
  refine iterG_eq0 (fun i => ((i : Nat) : Int)) L.length rfl (by omega) (fun i hi K => ?_) (fun K => ?_)
  · obtain ⟨b, hb⟩ := Option.isSome_iff_exists.1 (h i hi)
    simp only [st_zl_bits_0, Int.toNat_natCast]
    rw [dec_true (by omega), cond_true, and_true_of (inR_of (by omega) (by omega)), hb]
    show (inR (i : Int) L.length && cond ((b : Int) != (b : Int)) _ _) = _
    rw [and_true_of (inR_of (by omega) (by omega)), show (((b : Nat) : Int) != ((b : Nat) : Int)) = false by rw [bne_self_eq_false], cond_false, and_true_of (fits_ok (by omega) (by omega))]
    rfl
  · simp only [st_zl_bits_0]
    rw [dec_false (by omega), cond_false]
theorem law_quats {N : Nat} (hN : 1000 ≤ N) {a b c d : Fl} (h : a.isSome = true ∧ b.isSome = true ∧ c.isSome = true ∧ d.isSome = true) (k : Bool → Bool) : s_q74 N a b c d a b c d k = k true := by
  have hl : ∀ i, i < [a, b, c, d].length → ([a, b, c, d].getD i none).isSome = true := by
    intro i hi
    match i, hi with
    | 0, _ => exact h.1
    | 1, _ => exact h.2.1
    | 2, _ => exact h.2.2.1
    | 3, _ => exact h.2.2.2
  exact law_bits hN (le4 a b c d) hl _
theorem law_awake {N : Nat} (hN : 1000 ≤ N) (k : Bool → Bool) : s_q101 N k = k true := by
  obtain ⟨M, rfl⟩ : ∃ M, N = M + 1000 := ⟨N - 1000, by omega⟩
  kernel_rfl
/-- the law -/
theorem law_AttitudeTriads {N : Nat} (hN : 1000 ≤ N) {a0 a1 a2 b0 b1 b2 c0 c1 c2 d0 d1 d2 : Int} (ha0 : a0.toNat < 18446744073709551616) (ha1 : a1.toNat < 18446744073709551616) (ha2 : a2.toNat < 18446744073709551616) (hc0 : c0.toNat < 18446744073709551616) (hc1 : c1.toNat < 18446744073709551616) (hc2 : c2.toNat < 18446744073709551616) (k : Bool → Bool) : s_q38 N a0 a1 a2 b0 b1 b2 c0 c1 c2 d0 d1 d2 k = k true := by
  have hv : ∀ (x y z : Int) (k : Fl → Fl → Fl → Bool), s_q117 N x y z k = k (canon x.toNat) (canon y.toNat) (canon z.toNat) := fun _ _ _ _ => rfl
  obtain ⟨x, y, z, w, n, hs, f, g⟩ := law_Triad hN (b0 := canon b0.toNat) (b1 := canon b1.toNat) (b2 := canon b2.toNat) (d0 := canon d0.toNat) (d1 := canon d1.toNat) (d2 := canon d2.toNat) (canon_FW ha0) (canon_FW ha1) (canon_FW ha2) (canon_FW hc0) (canon_FW hc1) (canon_FW hc2)
  unfold s_q38 G_q38
  simp only [hv]
  rw [f]
  rw [g, law_quats hN hs, show (true == true) = true from rfl, cond_true, show (n == n) = true by rw [beq_self_eq_true]]
  rw [show (true == true) = true from rfl, cond_true, law_awake hN]

end Go.Proofs.YtldpkhfffeddiaaGreat
end
