/-
  ROUNDING: a whole number times a power of two, rounded as the document says, is the model's nearest word.
  Conditions: the sizes that a double's scaling has.
-/
import Derived.Test.YtccocdgimamdhaaGreatDoorBig
import Derived.Test.YtccocdgimamdhaaGreatDoorQ1
import Derived.Test.YtccocdgimamdhaaGreatDoorFlA
section
namespace Go.Proofs.YtccocdgimamdhaaGreatDoor
open Go Go.Mach Ieee
set_option linter.unusedVariables false

theorem digs_len_le : ∀ (j n : Nat), n < 4294967296 ^ j -> (digs n).length <= j
  | 0, n, h => by
    have : n = 0 := by simp at h; exact h
    subst this; rw [digs_zero]; exact Nat.le_refl _
  | j + 1, n, h => by
    by_cases h0 : n = 0
    · subst h0; rw [digs_zero]; simp
    · rw [digs_pos h0, List.length_cons]
      have : n / 4294967296 < 4294967296 ^ j := Nat.div_lt_of_lt_mul (by rw [Nat.pow_succ] at h; omega)
      have := digs_len_le j _ this
      omega
theorem short_pow {N n j : Nat} (hN : 1000 <= N) (hj : j <= 900) (h : n < 4294967296 ^ j) : Short N (digs n) := by
  have := digs_len_le j n h
  exact ⟨by omega, by omega⟩
theorem short_small {N n : Nat} (hN : 1000 <= N) (h : n < 18446744073709551616) : Short N (digs n) := short_pow (j := 2) hN (by decide) (by
  have : (4294967296 : Nat) ^ 2 = 18446744073709551616 := by decide
  omega)
theorem pow32 (j : Nat) : 4294967296 ^ j = 2 ^ (32 * j) := by rw [Nat.pow_mul]
theorem shOk_of {N n s : Nat} (hN : 1000 <= N) (h : n < 18446744073709551616) (hs : s <= 7000) : shOk N n s := by
  have h2 : (digs n).length <= 2 := digs_len_le 2 n (by
    have : (4294967296 : Nat) ^ 2 = 18446744073709551616 := by decide
    omega)
  refine ⟨by omega, by omega, by omega, short_pow (j := 221) hN (by decide) ?_⟩
  rw [pow32]
  have hE : 64 + s <= 32 * 221 := by omega
  generalize 32 * 221 = E at hE ⊢
  have h64 : n < 2 ^ 64 := by
    have : (2 : Nat) ^ 64 = 18446744073709551616 := by decide
    omega
  have h1 : n * 2 ^ s < 2 ^ 64 * 2 ^ s := Nat.mul_lt_mul_of_pos_right h64 (Nat.two_pow_pos s)
  rw [<- Nat.pow_add] at h1
  exact Nat.lt_of_lt_of_le h1 (Nat.pow_le_pow_right (by decide) hE)
theorem intK_nat (n : Nat) (k : Bool -> List Int -> Bool) : intK (n : Int) k = k false (digs n) := by
  unfold intK
  rw [decide_eq_false (by omega), Int.natAbs_natCast]
theorem ival_false (n : Nat) : ival false n = n := rfl

theorem bl_le53 {q : Nat} (h : q < 9007199254740992) : bl q <= 53 := by
  unfold bl; split
  · omega
  · rename_i h0
    have := (Nat.log2_lt h0).2 (show q < 2 ^ 53 by simpa using h)
    omega
theorem bl_lt53 {q : Nat} (h : bl q < 53) : q < 4503599627370496 := by
  unfold bl at h; split at h
  · omega
  · rename_i h0
    have := (Nat.log2_lt h0).1 (show q.log2 < 52 by omega)
    simpa using this
theorem bl_ge53 {q : Nat} (h : ¬ bl q < 53) : 4503599627370496 <= q := by
  rcases Nat.lt_or_ge q 4503599627370496 with h1 | h1
  · exfalso
    apply h
    unfold bl; split
    · omega
    · rename_i h0
      have := (Nat.log2_lt h0).2 (show q < 2 ^ 52 by simpa using h1)
      omega
  · exact h1
theorem bl_2p53 : bl 9007199254740992 = 54 := by decide
theorem bl_log {m : Nat} (h : m ≠ 0) : bl m = m.log2 + 1 := by unfold bl; rw [if_neg h]

theorem or0 (n : Nat) (h : n < 18446744073709551616) : bitsN .or .u64 0 (n : Int) = n := by
  have := bitsN_or_disj64 0 n 0 (by decide) (by omega)
  simpa using this
theorem orTop (n : Nat) (h : n < 9223372036854775808) : bitsN .or .u64 (n : Int) 9223372036854775808 = ((9223372036854775808 + n : Nat) : Int) := by
  have := bitsN_or_disj64 n 1 63 (by simpa using h) (by simp; omega)
  simpa using this
theorem or52 (f n : Nat) (hf : f < 2048) (h : n < 4503599627370496) : bitsN .or .u64 ((f * 4503599627370496 : Nat) : Int) (n : Int) = ((f * 4503599627370496 + n : Nat) : Int) := by
  have e : bitsN .or .u64 ((f * 4503599627370496 : Nat) : Int) (n : Int) = bitsN .or .u64 (n : Int) ((f * 4503599627370496 : Nat) : Int) := by
    unfold bitsN bitsI
    simp only [Option.getD_some]
    rw [show (BitVec.ofInt (IntKind.bits .u64) ((f * 4503599627370496 : Nat) : Int) ||| BitVec.ofInt (IntKind.bits .u64) (n : Int)) = (BitVec.ofInt (IntKind.bits .u64) (n : Int) ||| BitVec.ofInt (IntKind.bits .u64) ((f * 4503599627370496 : Nat) : Int)) from BitVec.or_comm _ _]
  rw [e]
  have := bitsN_or_disj64 n f 52 (by simpa using h) (by simp; omega)
  rw [show (2 : Nat) ^ 52 * f = f * 4503599627370496 by rw [Nat.mul_comm]] at this
  exact this
theorem and52 (n : Nat) : bitsN .and .u64 (n : Int) 4503599627370495 = ((n % 4503599627370496 : Nat) : Int) := by
  have := bitsN_and_mask n 52 (by decide)
  simpa using this
theorem and1_32 (a : Nat) : bitsN .and .u32 (a : Int) 1 = ((a % 2 : Nat) : Int) := by
  unfold bitsN bitsI
  simp only [Option.getD_some]
  have e : ((BitVec.ofInt (IntKind.bits .u32) (a : Int)) &&& (BitVec.ofInt (IntKind.bits .u32) (1 : Int))).toNat = a % 2 := by
    show ((BitVec.ofInt 32 (a : Int)) &&& (BitVec.ofInt 32 ((2 ^ 1 - 1 : Nat) : Int))).toNat = a % 2 ^ 1
    rw [BitVec.toNat_and, BitVec.ofInt_natCast, BitVec.ofInt_natCast, BitVec.toNat_ofNat, BitVec.toNat_ofNat, Nat.mod_eq_of_lt (a := 2 ^ 1 - 1) (by decide), Nat.and_two_pow_sub_one_eq_mod, Nat.mod_mod_of_dvd]
    exact Nat.pow_dvd_pow 2 (by decide)
  rw [e, wrap_u32]
  omega
theorem law_put {N : Nat} (neg : Bool) (f n : Nat) (hf : f < 2048) (h : n < 4503599627370496) (k : Int -> Bool) : sj74 N neg f n k = k ((Ieee.double.word neg (f * 4503599627370496 + n) : Nat) : Int) := by
  unfold sj74 Gj74
  have e : IntKind.wrap .u64 (IntKind.wrap .u64 (f : Int) * 2 ^ 52) = ((f * 4503599627370496 : Nat) : Int) := by
    rw [wrap_u64 f (by omega), wrap64]
    have : (2 : Int) ^ 52 = 4503599627370496 := by decide
    rw [this]; omega
  rw [e, or52 _ _ hf h]
  cases neg
  · rfl
  · rw [cond_true, orTop _ (by omega)]; rfl

theorem law_put_0 {N : Nat} (neg : Bool) (n : Nat) (h : n < 4503599627370496) (k : Int -> Bool) : sj74 N neg 0 n k = k ((Ieee.double.word neg (0 + n) : Nat) : Int) := by
  have := law_put (N := N) neg 0 n (by decide) h k
  rw [Nat.zero_mul] at this
  exact this
theorem law_Nought {N : Nat} (neg : Bool) (k : Int -> Bool) : sj174 N neg k = k ((Ieee.double.word neg 0 : Nat) : Int) := by
  have := law_put (N := N) neg 0 0 (by decide) (by decide) k
  exact this
theorem law_Infinity {N : Nat} (neg : Bool) (k : Int -> Bool) : sj103 N neg k = k ((Ieee.double.word neg 9218868437227405312 : Nat) : Int) := by
  have := law_put (N := N) neg 2047 0 (by decide) (by decide) k
  exact this
theorem law_over {N : Nat} (neg : Bool) (k : Int -> Bool) : sj65 N neg k = k ((Ieee.double.word neg 9218868437227405312 : Nat) : Int) := law_Infinity (N := N) neg k
theorem law_NewInt1 {N : Nat} (hN : 1000 <= N) (k : Bool -> List Int -> Bool) : sj13 N 1 k = k false (digs 1) := law_NewInt (N := N) 1 (by decide) (short_small hN (by decide)) (by omega) k
theorem law_Rsh1 {N : Nat} (n : Nat) (k : Bool -> List Int -> Bool) (h : Short N (digs n)) : sj12 N 1 false (digs n) k = k false (digs (n / 2)) := law_Rsh_r (N := N) 1 n (by decide) h k
theorem law_cut02 {N : Nat} (hN : 1000 <= N) (m d : Nat) (hm : m < 18446744073709551616) (h1 : 1 <= d) (hd : d <= 6900) (k : Int -> Bool -> List Int -> Bool) :
    sj66 N (d : Int) false (digs m) k = k (if m % 2 ^ d = 0 then -2 else cmpN (m % 2 ^ d) (2 ^ (d - 1))) false (digs (m / 2 ^ d)) := by
  unfold sj66 Gj66
  have hmd : m / 2 ^ d * 2 ^ d <= m := Nat.div_mul_le_self _ _
  have hq : m / 2 ^ d <= m := Nat.div_le_self _ _
  have hr : m % 2 ^ d <= m := Nat.mod_le _ _
  have hme : m / 2 ^ d * 2 ^ d + m % 2 ^ d = m := by rw [Nat.mul_comm]; exact Nat.div_add_mod _ _
  rw [wrap_u64 d (by omega), law_Rsh_n d false m (by omega) (short_small hN hm), law_Lsh_n d false false _ (shOk_of hN (by omega) (by omega)), ival_false, intK_nat,
    law_Sub_n false false m false _ (short_small hN hm) (short_small hN (by omega)) (short_pow (j := 3) hN (by decide) (by
      have : (4294967296 : Nat) ^ 3 = 79228162514264337593543950336 := by decide
      omega)), ival_false, ival_false]
  have e : (m : Int) - ((m / 2 ^ d * 2 ^ d : Nat) : Int) = ((m % 2 ^ d : Nat) : Int) := by omega
  have e0 : ((d : Int) == 0) = false := by simp; omega
  rw [e, intK_nat, e0, cond_false, law_Sign_r]
  by_cases hz : m % 2 ^ d = 0
  · rw [if_pos hz, if_pos hz]; rfl
  · rw [if_neg hz, if_neg hz]
    simp only [Bool.false_eq_true, if_false]
    show sj13 N 1 _ = _
    have e1 : IntKind.wrap .u64 ((d : Int) - 1) = ((d - 1 : Nat) : Int) := by rw [wrap64]; omega
    have hp1 := short_pow (N := N) (n := 2 ^ (d - 1)) (j := 220) hN (by decide) (by
      rw [pow32]
      have hE : d - 1 < 32 * 220 := by omega
      generalize 32 * 220 = E at hE ⊢
      exact Nat.pow_lt_pow_right (by decide) hE)
    rw [law_NewInt1 hN, and_tr (fits_ok (by omega) (by omega)), e1, law_Lsh_n (d - 1) false false 1 (shOk_of hN (by decide) (by omega)), ival_false, Nat.one_mul, intK_nat, law_Cmp_r _ _ (short_small hN (by omega)) hp1]
    cases (cmpN (m % 2 ^ d) (2 ^ (d - 1)) == 0) == true <;> rfl
theorem digs_head (q : Nat) : (digs q).getD 0 0 = ((q % 4294967296 : Nat) : Int) := by
  by_cases h : q = 0
  · subst h; rw [digs_zero]; rfl
  · rw [digs_pos h]; rfl
theorem law_Bit0 (N : Nat) (q : Nat) (k : Int -> Bool) : sj131 N 0 false (digs q) k = k ((q % 2 : Nat) : Int) := by
  unfold sj131 Gj131
  rw [cond_false]
  unfold Jj212 Jj214
  have e0 : Int.tdiv 0 32 = 0 := by decide
  have e1 : Int.tmod 0 32 = 0 := by decide
  rw [e0, e1, and_tr (by decide)]
  by_cases h : q = 0
  · subst h; rw [digs_zero]; rfl
  · have hl : 0 < (digs q).length := by rw [digs_pos h]; simp
    rw [decide_eq_true (by omega), cond_true, and_tr (by decide), and_tr (inR_of (by decide) (by omega)), and_tr (by decide), cond_false]
    have e2 : Int.toNat 0 = 0 := rfl
    rw [e2, digs_head]
    have e3 : (min (Int.toNat (IntKind.wrap .u64 0)) 32) = 0 := by decide
    rw [e3]
    have e4 : Int.fdiv ((q % 4294967296 : Nat) : Int) (2 ^ 0) = ((q % 4294967296 : Nat) : Int) := by
      rw [show (2 : Int) ^ 0 = ((1 : Nat) : Int) from rfl, nat_fdiv, Nat.div_one]
    rw [e4, and1_32, wrap_u64 _ (by omega)]
    congr 1
    omega
theorem law_goesUp (N : Nat) (neg : Bool) (c : Int) (q : Nat) (k : Bool -> Bool) : sj22 N neg c false (digs q) k = k (decide (c > 0) || (decide (c = 0) && decide (q % 2 = 1))) := by
  unfold sj22 Gj22
  by_cases h1 : c > 0
  · rw [decide_eq_true h1]; rfl
  · rw [decide_eq_false h1]
    by_cases h2 : c = 0
    · subst h2
      rw [show ((0 : Int) == 0) = true from rfl, law_Bit0]
      simp only [beq_self_eq_true, cond_true, Bool.false_or, decide_true, Bool.true_and]
      congr 1
      rw [Bool.eq_iff_iff]; simp; omega
    · have : (c == 0) = false := by simp [h2]
      rw [this, decide_eq_false h2]; rfl

theorem tail_4 {N : Nat} (hN : 1000 <= N) (neg : Bool) (e : Int) (b : Bool) (b_1 : List Int) (L : Int) (q : Nat) (hL : -1074 <= L) (hL2 : L <= 100000) (hq : q < 9007199254740992) (hlow : q < 4503599627370496 -> L = -1074) (k : Int -> Int -> Bool) :
    ∃ f, Jj228 N (sj5 N) (sj9 N) (sj14 N) (sj66 N) (sj22 N) (sj13 N) (sj2 N) (sj12 N) (sj65 N) (sj7 N) (sj74 N) neg e b b_1 L false (digs q) k = k ((Ieee.double.word neg (min ((L + 1074).toNat * 4503599627370496 + q) 9218868437227405312) : Nat) : Int) f := by
  unfold Jj228
  have hbl := bl_le53 hq
  have hs : Short N (digs q) := short_small hN (by omega)
  rw [law_BitLen _ _ hs, and_tr (fits_ok (by omega) (by omega)), and_tr (fits_ok (by omega) (by omega))]
  by_cases ho : L + (bl q : Int) - 1 > 1023
  · rw [decide_eq_true ho, cond_true, law_over]
    have hq1 : ¬ q < 4503599627370496 := fun h => by have := hlow h; omega
    refine ⟨5, ?_⟩
    congr 3
    omega
  · rw [decide_eq_false ho, cond_false, law_BitLen _ _ hs]
    by_cases h53 : (bl q : Int) < 53
    · rw [decide_eq_true h53, cond_true]
      have hq1 := bl_lt53 (by omega : bl q < 53)
      rw [law_Uint64 _ _ _ (by omega), law_put_0 _ _ hq1]
      have := hlow hq1
      subst this
      refine ⟨0, ?_⟩
      congr 3
      omega
    · rw [decide_eq_false h53, cond_false, and_tr (fits_ok (by omega) (by omega)), and_tr (fits_ok (by omega) (by omega)), law_Uint64 _ _ _ (by omega), and52]
      have hq1 := bl_ge53 (by omega : ¬ bl q < 53)
      have e1 : L - -1074 + 1 = (((L + 1075).toNat : Nat) : Int) := by omega
      have hb53 : bl q = 53 := by omega
      rw [e1, law_put _ _ _ (by omega) (by omega)]
      refine ⟨0, ?_⟩
      congr 3
      omega
theorem tail_3 {N : Nat} (hN : 1000 <= N) (neg : Bool) (e : Int) (b : Bool) (b_1 : List Int) (top : Int) (L : Int) (q : Nat) (hL : -1074 <= L) (hL2 : L <= 90000) (hq : q <= 9007199254740992) (hlow : q < 4503599627370496 -> L = -1074) (k : Int -> Int -> Bool) :
    ∃ f, Jj220 N (sj5 N) (sj9 N) (sj14 N) (sj66 N) (sj22 N) (sj13 N) (sj2 N) (sj12 N) (sj65 N) (sj7 N) (sj74 N) neg e b b_1 top L false (digs q) k = k ((Ieee.double.word neg (min ((L + 1074).toNat * 4503599627370496 + q) 9218868437227405312) : Nat) : Int) f := by
  unfold Jj220
  have hs : Short N (digs q) := short_small hN (by omega)
  rw [law_BitLen _ _ hs]
  by_cases h : q < 9007199254740992
  · have hbl := bl_le53 h
    rw [decide_eq_false (by omega), cond_false]
    exact tail_4 hN neg e b b_1 L q hL (by omega) h hlow k
  · obtain rfl : q = 9007199254740992 := by omega
    rw [decide_eq_true (by rw [bl_2p53]; decide), cond_true, law_Rsh1 _ _ hs, show 9007199254740992 / 2 = 4503599627370496 by decide, and_tr (fits_ok (by omega) (by omega))]
    obtain ⟨f, hf⟩ := tail_4 hN neg e b b_1 (L + 1) 4503599627370496 (by omega) (by omega) (by decide) (fun h => absurd h (by decide)) k
    have e9 : ((L + 1 + 1074).toNat * 4503599627370496 + 4503599627370496) = ((L + 1074).toNat * 4503599627370496 + 9007199254740992) := by omega
    rw [e9] at hf
    exact ⟨f, hf⟩
theorem tail_8 {N : Nat} (hN : 1000 <= N) (neg : Bool) (e : Int) (b : Bool) (b_1 : List Int) (L : Int) (fl : Int) (q : Nat) (hL : -1074 <= L) (hL2 : L <= 100000) (hq : q < 9007199254740992) (hlow : q < 4503599627370496 -> L = -1074) (k : Int -> Int -> Bool) :
    ∃ f, Jj230 N (sj5 N) (sj9 N) (sj14 N) (sj66 N) (sj22 N) (sj13 N) (sj2 N) (sj12 N) (sj65 N) (sj7 N) (sj74 N) neg e b b_1 L fl false (digs q) k = k ((Ieee.double.word neg (min ((L + 1074).toNat * 4503599627370496 + q) 9218868437227405312) : Nat) : Int) f := by
  unfold Jj230
  have hbl := bl_le53 hq
  have hs : Short N (digs q) := short_small hN (by omega)
  rw [law_BitLen _ _ hs, and_tr (fits_ok (by omega) (by omega)), and_tr (fits_ok (by omega) (by omega))]
  by_cases ho : L + (bl q : Int) - 1 > 1023
  · rw [decide_eq_true ho, cond_true, law_over]
    have hq1 : ¬ q < 4503599627370496 := fun h => by have := hlow h; omega
    refine ⟨5, ?_⟩
    congr 3
    omega
  · rw [decide_eq_false ho, cond_false, law_BitLen _ _ hs]
    by_cases h53 : (bl q : Int) < 53
    · rw [decide_eq_true h53, cond_true]
      have hq1 := bl_lt53 (by omega : bl q < 53)
      rw [law_Uint64 _ _ _ (by omega), law_put_0 _ _ hq1]
      have := hlow hq1
      subst this
      refine ⟨fl, ?_⟩
      congr 3
      omega
    · rw [decide_eq_false h53, cond_false, and_tr (fits_ok (by omega) (by omega)), and_tr (fits_ok (by omega) (by omega)), law_Uint64 _ _ _ (by omega), and52]
      have hq1 := bl_ge53 (by omega : ¬ bl q < 53)
      have e1 : L - -1074 + 1 = (((L + 1075).toNat : Nat) : Int) := by omega
      have hb53 : bl q = 53 := by omega
      rw [e1, law_put _ _ _ (by omega) (by omega)]
      refine ⟨fl, ?_⟩
      congr 3
      omega
theorem tail_7 {N : Nat} (hN : 1000 <= N) (neg : Bool) (e : Int) (b : Bool) (b_1 : List Int) (L : Int) (fl : Int) (q : Nat) (hL : -1074 <= L) (hL2 : L <= 90000) (hq : q <= 9007199254740992) (hlow : q < 4503599627370496 -> L = -1074) (k : Int -> Int -> Bool) :
    ∃ f, Jj209 N (sj5 N) (sj9 N) (sj14 N) (sj66 N) (sj22 N) (sj13 N) (sj2 N) (sj12 N) (sj65 N) (sj7 N) (sj74 N) neg e b b_1 L fl false (digs q) k = k ((Ieee.double.word neg (min ((L + 1074).toNat * 4503599627370496 + q) 9218868437227405312) : Nat) : Int) f := by
  unfold Jj209
  have hs : Short N (digs q) := short_small hN (by omega)
  rw [law_BitLen _ _ hs]
  by_cases h : q < 9007199254740992
  · have hbl := bl_le53 h
    rw [decide_eq_false (by omega), cond_false]
    exact tail_8 hN neg e b b_1 L fl q hL (by omega) h hlow k
  · obtain rfl : q = 9007199254740992 := by omega
    rw [decide_eq_true (by rw [bl_2p53]; decide), cond_true, law_Rsh1 _ _ hs, show 9007199254740992 / 2 = 4503599627370496 by decide, and_tr (fits_ok (by omega) (by omega))]
    obtain ⟨f, hf⟩ := tail_8 hN neg e b b_1 (L + 1) fl 4503599627370496 (by omega) (by omega) (by decide) (fun h => absurd h (by decide)) k
    have e9 : ((L + 1 + 1074).toNat * 4503599627370496 + 4503599627370496) = ((L + 1074).toNat * 4503599627370496 + 9007199254740992) := by omega
    rw [e9] at hf
    exact ⟨f, hf⟩
theorem tail_11 {N : Nat} (hN : 1000 <= N) (neg : Bool) (e : Int) (b : Bool) (b_1 : List Int) (L : Int) (fl : Int) (q : Nat) (hL : -1074 <= L) (hL2 : L <= 100000) (hq : q < 9007199254740992) (hlow : q < 4503599627370496 -> L = -1074) (k : Int -> Int -> Bool) :
    ∃ f, Jj217 N (sj5 N) (sj9 N) (sj14 N) (sj66 N) (sj22 N) (sj13 N) (sj2 N) (sj12 N) (sj65 N) (sj7 N) (sj74 N) neg e b b_1 L fl false (digs q) k = k ((Ieee.double.word neg (min ((L + 1074).toNat * 4503599627370496 + q) 9218868437227405312) : Nat) : Int) f := by
  unfold Jj217
  have hbl := bl_le53 hq
  have hs : Short N (digs q) := short_small hN (by omega)
  rw [law_BitLen _ _ hs, and_tr (fits_ok (by omega) (by omega)), and_tr (fits_ok (by omega) (by omega))]
  by_cases ho : L + (bl q : Int) - 1 > 1023
  · rw [decide_eq_true ho, cond_true, law_over]
    have hq1 : ¬ q < 4503599627370496 := fun h => by have := hlow h; omega
    refine ⟨5, ?_⟩
    congr 3
    omega
  · rw [decide_eq_false ho, cond_false, law_BitLen _ _ hs]
    by_cases h53 : (bl q : Int) < 53
    · rw [decide_eq_true h53, cond_true]
      have hq1 := bl_lt53 (by omega : bl q < 53)
      rw [law_Uint64 _ _ _ (by omega), law_put_0 _ _ hq1]
      have := hlow hq1
      subst this
      refine ⟨fl, ?_⟩
      congr 3
      omega
    · rw [decide_eq_false h53, cond_false, and_tr (fits_ok (by omega) (by omega)), and_tr (fits_ok (by omega) (by omega)), law_Uint64 _ _ _ (by omega), and52]
      have hq1 := bl_ge53 (by omega : ¬ bl q < 53)
      have e1 : L - -1074 + 1 = (((L + 1075).toNat : Nat) : Int) := by omega
      have hb53 : bl q = 53 := by omega
      rw [e1, law_put _ _ _ (by omega) (by omega)]
      refine ⟨fl, ?_⟩
      congr 3
      omega
theorem tail_10 {N : Nat} (hN : 1000 <= N) (neg : Bool) (e : Int) (b : Bool) (b_1 : List Int) (L : Int) (fl : Int) (q : Nat) (hL : -1074 <= L) (hL2 : L <= 90000) (hq : q <= 9007199254740992) (hlow : q < 4503599627370496 -> L = -1074) (k : Int -> Int -> Bool) :
    ∃ f, Jj203 N (sj5 N) (sj9 N) (sj14 N) (sj66 N) (sj22 N) (sj13 N) (sj2 N) (sj12 N) (sj65 N) (sj7 N) (sj74 N) neg e b b_1 L fl false (digs q) k = k ((Ieee.double.word neg (min ((L + 1074).toNat * 4503599627370496 + q) 9218868437227405312) : Nat) : Int) f := by
  unfold Jj203
  have hs : Short N (digs q) := short_small hN (by omega)
  rw [law_BitLen _ _ hs]
  by_cases h : q < 9007199254740992
  · have hbl := bl_le53 h
    rw [decide_eq_false (by omega), cond_false]
    exact tail_11 hN neg e b b_1 L fl q hL (by omega) h hlow k
  · obtain rfl : q = 9007199254740992 := by omega
    rw [decide_eq_true (by rw [bl_2p53]; decide), cond_true, law_Rsh1 _ _ hs, show 9007199254740992 / 2 = 4503599627370496 by decide, and_tr (fits_ok (by omega) (by omega))]
    obtain ⟨f, hf⟩ := tail_11 hN neg e b b_1 (L + 1) fl 4503599627370496 (by omega) (by omega) (by decide) (fun h => absurd h (by decide)) k
    have e9 : ((L + 1 + 1074).toNat * 4503599627370496 + 4503599627370496) = ((L + 1074).toNat * 4503599627370496 + 9007199254740992) := by omega
    rw [e9] at hf
    exact ⟨f, hf⟩
theorem tail_6 {N : Nat} (hN : 1000 <= N) (neg : Bool) (e : Int) (b : Bool) (b_1 : List Int) (top L c : Int) (q : Nat) (hL : -1074 <= L) (hL2 : L <= 90000) (hq : q <= 9007199254740992) (hlow : q < 4503599627370496 -> L = -1074) (k : Int -> Int -> Bool) :
    ∃ f, Jj221 N (sj5 N) (sj9 N) (sj14 N) (sj66 N) (sj22 N) (sj13 N) (sj2 N) (sj12 N) (sj65 N) (sj7 N) (sj74 N) neg e b b_1 top L c false (digs q) k = k ((Ieee.double.word neg (min ((L + 1074).toNat * 4503599627370496 + q) 9218868437227405312) : Nat) : Int) f := by
  unfold Jj221
  cases decide (c > -2) with
  | false => rw [cond_false]; exact tail_7 hN neg e b b_1 L 0 q hL hL2 hq hlow k
  | true =>
    rw [cond_true]
    cases decide (top < -1022) with
    | false => rw [cond_false]; exact tail_7 hN neg e b b_1 L 1 q hL hL2 hq hlow k
    | true => rw [cond_true]; exact tail_7 hN neg e b b_1 L 3 q hL hL2 hq hlow k
theorem tail_9 {N : Nat} (hN : 1000 <= N) (neg : Bool) (e : Int) (b : Bool) (b_1 : List Int) (top L c : Int) (q : Nat) (hL : -1074 <= L) (hL2 : L <= 90000) (hq : q <= 9007199254740992) (hlow : q < 4503599627370496 -> L = -1074) (k : Int -> Int -> Bool) :
    ∃ f, Jj222 N (sj5 N) (sj9 N) (sj14 N) (sj66 N) (sj22 N) (sj13 N) (sj2 N) (sj12 N) (sj65 N) (sj7 N) (sj74 N) neg e b b_1 top L c false (digs q) k = k ((Ieee.double.word neg (min ((L + 1074).toNat * 4503599627370496 + q) 9218868437227405312) : Nat) : Int) f := by
  unfold Jj222
  cases decide (c > -2) with
  | false => rw [cond_false]; exact tail_10 hN neg e b b_1 L 0 q hL hL2 hq hlow k
  | true =>
    rw [cond_true]
    cases decide (top < -1022) with
    | false => rw [cond_false]; exact tail_10 hN neg e b b_1 L 1 q hL hL2 hq hlow k
    | true => rw [cond_true]; exact tail_10 hN neg e b b_1 L 3 q hL hL2 hq hlow k

def upN (n d : Nat) : Bool := decide (2 ^ d < 2 * (n % 2 ^ d)) || (2 ^ d == 2 * (n % 2 ^ d) && n / 2 ^ d % 2 == 1)
theorem cut_small (s : Bool) {n d : Nat} (h : d <= n.log2 + 2) : Toward.even.cut s n d = n / 2 ^ d + (upN n d).toNat := by
  unfold Toward.cut upN
  rw [Nat.min_eq_left h, Nat.one_shiftLeft]
theorem up_far {n d : Nat} (h : n.log2 + 2 <= d) (h0 : n ≠ 0) : n / 2 ^ d = 0 /\ n % 2 ^ d = n /\ upN n d = false := by
  have h1 : n < 2 ^ (n.log2 + 1) := Nat.lt_log2_self
  have h2 : 2 ^ (n.log2 + 2) <= 2 ^ d := Nat.pow_le_pow_right (by decide) h
  have h3 : 2 ^ (n.log2 + 2) = 2 * 2 ^ (n.log2 + 1) := by rw [Nat.pow_succ]; omega
  have h4 : n / 2 ^ d = 0 := Nat.div_eq_of_lt (by omega)
  have h5 : n % 2 ^ d = n := Nat.mod_eq_of_lt (by omega)
  refine ⟨h4, h5, ?_⟩
  unfold upN
  rw [h5, decide_eq_false (by omega), Bool.false_or]
  have : (2 ^ d == 2 * n) = false := by simp; omega
  rw [this]; rfl
theorem cut_up (s : Bool) {n : Nat} (h0 : n ≠ 0) (d : Nat) : Toward.even.cut s n d = n / 2 ^ d + (upN n d).toNat := by
  by_cases h : d <= n.log2 + 2
  · exact cut_small s h
  · have hfar : Toward.even.cut s n d = Toward.even.cut s n (n.log2 + 2) := by
      unfold Toward.cut
      rw [Nat.min_eq_right (by omega), Nat.min_self]
    obtain ⟨a1, a2, a3⟩ := up_far (n := n) (d := d) (by omega) h0
    obtain ⟨b1, b2, b3⟩ := up_far (n := n) (d := n.log2 + 2) (Nat.le_refl _) h0
    rw [hfar, cut_small s (Nat.le_refl _), a1, a3, b1, b3]
theorem up_cmp (m d : Nat) (h : 1 <= d) : (decide ((if m % 2 ^ d = 0 then -2 else cmpN (m % 2 ^ d) (2 ^ (d - 1))) > (0 : Int)) || (decide ((if m % 2 ^ d = 0 then -2 else cmpN (m % 2 ^ d) (2 ^ (d - 1))) = (0 : Int)) && decide (m / 2 ^ d % 2 = 1))) = upN m d := by
  have h2 : 2 ^ d = 2 * 2 ^ (d - 1) := by
    have : d = d - 1 + 1 := by omega
    rw [this, Nat.pow_succ, Nat.add_sub_cancel]; omega
  have hp : 0 < 2 ^ (d - 1) := Nat.two_pow_pos _
  unfold upN
  rw [h2]
  generalize 2 ^ (d - 1) = p at *
  generalize m % (2 * p) = r
  generalize m / (2 * p) = q
  unfold cmpN
  rw [Bool.eq_iff_iff]
  simp only [Bool.or_eq_true, Bool.and_eq_true, decide_eq_true_eq, beq_iff_eq]
  split
  · omega
  · split
    · omega
    · split <;> omega

theorem law_Round {N : Nat} (hN : 1000 <= N) (neg : Bool) (e : Int) (m : Nat) (h0 : m ≠ 0) (hm : m < 9007199254740992) (he1 : -6500 <= e) (he2 : e <= 6500) (k : Int -> Int -> Bool) :
    ∃ f, sj143 N neg e false (digs m) k = k ((Ieee.double.nearest neg m e : Nat) : Int) f := by
  have hs : Short N (digs m) := short_small hN (by omega)
  have hl1 := Nat.log2_self_le h0
  have hl2 : m < 2 ^ (m.log2 + 1) := Nat.lt_log2_self
  have hl3 : m.log2 <= 52 := by
    have := bl_le53 hm
    rw [bl_log h0] at this
    omega
  have hn : Ieee.double.nearest neg m e = Ieee.double.word neg (min ((max (e + m.log2 - 52) (-1074) + 1074).toNat * 4503599627370496 + Toward.even.cut neg (m <<< (e - max (e + m.log2 - 52) (-1074)).toNat) (max (e + m.log2 - 52) (-1074) - e).toNat) 9218868437227405312) := by
    unfold Format.nearest
    rw [if_neg h0, leastPlace_d, binade_d, infRung_d]
    have hf : ((Ieee.double.fractionBits : Nat) : Int) = 52 := rfl
    have e74 : ∀ z : Int, z - -1074 = z + 1074 := fun z => by omega
    simp only [hf, e74]
  have hb : (bl m : Int) = (m.log2 : Int) + 1 := by rw [bl_log h0]; omega
  have hi : imm true (e + (bl m : Int) - 1 - 53 + 1) (-1074) = max (e + m.log2 - 52) (-1074) := by
    unfold imm; rw [cond_true]
    by_cases h : (-1074 : Int) > e + (bl m : Int) - 1 - 53 + 1
    · rw [decide_eq_true h, cond_true]; omega
    · rw [decide_eq_false h, cond_false]; omega
  have hL1 : -1074 <= max (e + (m.log2 : Int) - 52) (-1074) := by omega
  have hL2 : max (e + (m.log2 : Int) - 52) (-1074) <= 7000 := by omega
  have hL3 : max (e + (m.log2 : Int) - 52) (-1074) = -1074 \/ max (e + (m.log2 : Int) - 52) (-1074) = e + m.log2 - 52 := by omega
  unfold sj143 Gj143
  rw [hn, law_BitLen _ _ hs, and_tr (fits_ok (by omega) (by omega)), and_tr (fits_ok (by omega) (by omega)), and_tr (fits_ok (by omega) (by omega)), and_tr (fits_ok (by omega) (by omega)), law_Set _ _ _ hs]
  have hsg : sg false m = false := rfl
  rw [hsg, hi]
  generalize hLe : max (e + (m.log2 : Int) - 52) (-1074) = L at *
  by_cases hge : e >= L
  · have e1 : e - L = (((e - L).toNat : Nat) : Int) := by omega
    have e2 : (L - e).toNat = 0 := by omega
    have hd : (e - L).toNat + m.log2 <= 52 := by omega
    rw [decide_eq_true hge, cond_true, and_tr (fits_ok (by omega) (by omega)), e2, cut_zero]
    generalize hde : (e - L).toNat = d at *
    have hq1 : m * 2 ^ d < 9007199254740992 := by
      have h1 : m * 2 ^ d < 2 ^ (m.log2 + 1) * 2 ^ d := Nat.mul_lt_mul_of_pos_right hl2 (Nat.two_pow_pos d)
      rw [<- Nat.pow_add] at h1
      have h2 : 2 ^ (m.log2 + 1 + d) <= 2 ^ 53 := Nat.pow_le_pow_right (by decide) (by omega)
      have h3 : (2 : Nat) ^ 53 = 9007199254740992 := by decide
      omega
    have hq2 : m * 2 ^ d < 4503599627370496 -> L = -1074 := by
      intro h
      rcases hL3 with h3 | h3
      · exact h3
      · exfalso
        have h4 : d = 52 - m.log2 := by omega
        have h5 : 2 ^ m.log2 * 2 ^ d <= m * 2 ^ d := Nat.mul_le_mul_right _ hl1
        rw [<- Nat.pow_add, h4, show m.log2 + (52 - m.log2) = 52 by omega] at h5
        have h6 : (2 : Nat) ^ 52 = 4503599627370496 := by decide
        rw [h4] at h
        omega
    rw [e1, wrap_u64 d (by omega), law_Lsh_r d false m (shOk_of hN (by omega) (by omega)), ival_false, intK_nat, Nat.shiftLeft_eq]
    unfold Jj226
    rw [law_goesUp, decide_eq_false (by decide), decide_eq_false (by decide), Bool.false_and, Bool.false_or, cond_false]
    exact tail_3 hN neg e false (digs m) _ L (m * 2 ^ d) hL1 (by omega) (by omega) hq2 k
  · have e1 : L - e = (((L - e).toNat : Nat) : Int) := by omega
    have e2 : (e - L).toNat = 0 := by omega
    rw [decide_eq_false hge, cond_false, and_tr (fits_ok (by omega) (by omega)), e2, Nat.shiftLeft_zero, cut_up neg h0]
    have hd1 : 1 <= (L - e).toNat := by omega
    have hd2 : (L - e).toNat <= 6900 := by omega
    generalize hde : (L - e).toNat = d at *
    rw [e1, law_cut02 hN m d (by omega) hd1 hd2]
    have hq0 : m / 2 ^ d < 9007199254740992 := by
      have := Nat.div_le_self m (2 ^ d); omega
    have hq2 : m / 2 ^ d < 4503599627370496 -> L = -1074 := by
      intro h
      rcases hL3 with h3 | h3
      · exact h3
      · exfalso; omega
    unfold Jj229
    rw [law_goesUp, up_cmp m d hd1]
    cases hu : upN m d with
    | false =>
      rw [cond_false]
      exact tail_9 hN neg e false (digs m) _ L _ (m / 2 ^ d) hL1 (by omega) (by omega) hq2 k
    | true =>
      rw [cond_true, law_NewInt1 hN, law_Add_r false _ false 1 (short_small hN (by omega)) (short_small hN (by decide)) (short_small hN (by omega)), ival_false, ival_false]
      have e3 : ((m / 2 ^ d : Nat) : Int) + ((1 : Nat) : Int) = ((m / 2 ^ d + 1 : Nat) : Int) := by omega
      rw [e3, intK_nat]
      exact tail_6 hN neg e false (digs m) _ L _ (m / 2 ^ d + 1) hL1 (by omega) (by omega) (fun h => hq2 (by omega)) k
end Go.Proofs.YtccocdgimamdhaaGreatDoor
end
section
namespace Go.Proofs.YtccocdgimamdhaaGreatDoor
open Go Go.Mach Ieee
set_option linter.unusedVariables false

theorem law_SetUint64_r {N : Nat} (n : Nat) (hn : n < 18446744073709551616) (b : Bool) (l : List Int) (hN : Short N (digs n)) (h4 : 4 < N) (k : Bool -> List Int -> Bool) : sj85 N n b l k = k false (digs n) := by
  unfold sj85 Gj85
  rw [law_words n hn h4, law_put_r _ _ _ _ (digs_inW _) hN, mval_digs]
  rfl
theorem and11 (n : Nat) : bitsN .and .u64 (n : Int) 2047 = ((n % 2048 : Nat) : Int) := by
  have := bitsN_and_mask n 11 (by decide)
  simpa using this
theorem and01 (n : Nat) : bitsN .and .u64 (n : Int) 1 = ((n % 2 : Nat) : Int) := by
  have := bitsN_and_mask n 1 (by decide)
  simpa using this
theorem fdiv52 (b : Nat) : Int.fdiv (b : Int) (2 ^ 52) = ((b / 4503599627370496 : Nat) : Int) := by
  rw [show (2 : Int) ^ 52 = ((4503599627370496 : Nat) : Int) by decide, nat_fdiv]
theorem fdiv63 (b : Nat) : Int.fdiv (b : Int) (2 ^ 63) = ((b / 9223372036854775808 : Nat) : Int) := by
  rw [show (2 : Int) ^ 63 = ((9223372036854775808 : Nat) : Int) by decide, nat_fdiv]
theorem sign_eq (b : Nat) : (((b / 9223372036854775808 % 2 : Nat) : Int) == 1) = (b / 9223372036854775808 % 2 == 1) := by
  rw [Bool.eq_iff_iff, beq_iff_eq, beq_iff_eq]; omega
theorem orHidden (n : Nat) (h : n < 4503599627370496) : bitsN .or .u64 (n : Int) 4503599627370496 = ((4503599627370496 + n : Nat) : Int) := by
  have := bitsN_or_disj64 n 1 52 (by simpa using h) (by simp; omega)
  simpa using this

theorem law_Take {N : Nat} (hN : 1000 <= N) {b : Nat} (hb : W64 b) {s : Bool} {m : Nat} {i : Int} (h : Ieee.double.read b = .number s m i) (k0 : Bool -> Bool) (k1 : Bool -> Bool -> List Int -> Bool) (k2 : Bool -> Int -> Bool -> List Int -> Bool) (k3 : Bool -> Bool -> List Int -> Bool) :
    (i = -1074 /\ sj156 N b k0 k1 k2 k3 = k3 s false (digs m)) \/ sj156 N b k0 k1 k2 k3 = k2 s i false (digs m) := by
  unfold W64 at hb
  unfold sj156 Gj156
  rw [fdiv52, fdiv63, and52, and11, and01, sign_eq]
  obtain ⟨rfl, hlt, h⟩ := read_number h
  have hfr : b % 4503599627370496 < 4503599627370496 := Nat.mod_lt _ (by decide)
  rw [and_tr (fits_ok (by omega) (by omega)), law_SetUint64 _ (by omega) _ (short_small hN (by omega)) (by omega)]
  have e1 : (((b / 4503599627370496 % 2048 : Nat) : Int) == 2047) = false := by
    rw [beq_eq_false_iff_ne]; omega
  rw [e1, cond_false]
  rcases h with ⟨h1, rfl, rfl⟩ | ⟨h1, rfl, rfl⟩
  · refine .inl ⟨rfl, ?_⟩
    rw [decide_eq_false (by omega), cond_false]
    have : b % 4503599627370496 = b % 9223372036854775808 := by omega
    rw [this]
  · refine .inr ?_
    rw [decide_eq_true (by omega), cond_true, orHidden _ hfr, law_SetUint64_r _ (by omega) _ _ (short_small hN (by omega)) (by omega), and_tr (fits_ok (by omega) (by omega)), and_tr (fits_ok (by omega) (by omega)), and_tr (fits_ok (by omega) (by omega)), and_tr (fits_ok (by omega) (by omega))]
    have e2 : (((b / 4503599627370496 % 2048 : Nat) : Int) - 1 + -1022 - 53 + 1) = -1074 + ((b % 9223372036854775808 / 4503599627370496 - 1 : Nat) : Int) := by omega
    have e3 : 4503599627370496 + b % 4503599627370496 = 4503599627370496 + b % 9223372036854775808 % 4503599627370496 := by omega
    rw [e2, e3]

theorem law_same_2 {N : Nat} (hN : 1000 <= N) (s : Bool) (e : Int) (m : Nat) (hm : m < 9007199254740992) (he1 : -6500 <= e) (he2 : e <= 6500) (k : Int -> Int -> Bool) :
    ∃ f, sj110 N 0 s e false (digs m) k = k ((Ieee.double.nearest s m e : Nat) : Int) f := by
  unfold sj110 Gj110
  have h1 : ((0 : Int) == 2) = false := by decide
  have h2 : ((0 : Int) == 1) = false := by decide
  rw [h1, h2, cond_false, cond_false]
  unfold sj169 Gj169
  have h3 : (((0 : Int) == 0) == true) = true := by decide
  rw [h3, cond_true, law_Sign_r]
  by_cases h0 : m = 0
  · subst h0
    rw [if_pos rfl, show ((0 : Int) == 0) = true by decide]
    dsimp only
    rw [cond_true, law_Nought, nearest_zero]
    exact ⟨_, rfl⟩
  · rw [if_neg h0]
    simp only [Bool.false_eq_true, if_false]
    rw [show ((1 : Int) == 0) = false by decide, cond_false]
    exact law_Round hN s e m h0 hm he1 he2 _
theorem clamp_id {k : Int} (h1 : -5000 <= k) (h2 : k <= 5000) : imm true (-5000) (imm false k 5000) = k := by
  unfold imm
  rw [cond_false, cond_true]
  rcases Int.lt_or_le 5000 k with h | h
  · omega
  · by_cases h5 : (5000 : Int) < k
    · omega
    · rw [decide_eq_false h5, cond_false]
      by_cases h6 : k > -5000
      · rw [decide_eq_true h6, cond_true]
      · rw [decide_eq_false h6, cond_false]; omega
theorem law_Scale {N : Nat} (hN : 1000 <= N) {b : Nat} (hb : W64 b) {s : Bool} {m : Nat} {i : Int} (h : Ieee.double.read b = .number s m i) {k : Int} (hk1 : -5000 <= k) (hk2 : k <= 5000) (κ : Int -> Int -> Int -> Bool) :
    ∃ f g, sj149 N b k κ = κ ((Ieee.double.nearest s m (i + k) : Nat) : Int) f g := by
  have hK : ∀ x, sj120 N x = x := fun _ => rfl
  have hD : ∀ x, sj100 N x = x := fun _ => rfl
  have hp := place_le h
  have hg := place_ge h
  unfold sj149 Gj149
  rw [hK, hD, clamp_id hk1 hk2]
  rcases law_Take hN hb h _ _ _ _ with ⟨rfl, e⟩ | e
  · rw [e, and_tr (fits_ok (by omega) (by omega))]
    unfold Jj207
    rw [hD]
    obtain ⟨f, hf⟩ := law_same_2 hN s (-1074 + k) m hp.2 (by omega) (by omega) (fun a c => κ a c 0)
    exact ⟨f, 0, hf⟩
  · rw [e, and_tr (fits_ok (by omega) (by omega))]
    unfold Jj207
    rw [hD]
    obtain ⟨f, hf⟩ := law_same_2 hN s (i + k) m hp.2 (by omega) (by omega) (fun a c => κ a c 0)
    exact ⟨f, 0, hf⟩

theorem nearest_le (s : Bool) (m : Nat) (i : Int) : ∃ r, Ieee.double.nearest s m i = Ieee.double.word s r /\ r <= 9218868437227405312 := by
  unfold Format.nearest
  split
  · exact ⟨0, rfl, by omega⟩
  · rw [infRung_d]; exact ⟨_, rfl, Nat.min_le_right _ _⟩
theorem read_word_le (s : Bool) {r : Nat} (h : r <= 9218868437227405312) : Ieee.double.read (Ieee.double.word s r) = .infinity s \/ ∃ m i, Ieee.double.read (Ieee.double.word s r) = .number s m i := by
  have hw : Ieee.double.word s r % 9223372036854775808 = r := by
    unfold Format.word; rw [signWeight_d]; cases s <;> simp <;> omega
  have hs : (Ieee.double.word s r / 9223372036854775808 % 2 == 1) = s := by
    unfold Format.word; rw [signWeight_d]
    cases s
    · simp; omega
    · have : (9223372036854775808 + r) / 9223372036854775808 = 1 := by omega
      simp [this]
  unfold Format.read
  simp only [signWeight_d, binade_d, infRung_d, hw, hs]
  split
  · exact .inr ⟨_, _, rfl⟩
  · split
    · exact .inr ⟨_, _, rfl⟩
    · split
      · exact .inl rfl
      · omega
theorem nearest_W64 (s : Bool) (m : Nat) (i : Int) : W64 (Ieee.double.nearest s m i) := by
  obtain ⟨r, h, hr⟩ := nearest_le s m i
  rw [h]; exact word_W64 s (by omega)
theorem canon_nearest (s : Bool) (m : Nat) (i : Int) : canon (Ieee.double.nearest s m i) = some (Ieee.double.nearest s m i) := by
  obtain ⟨r, h, hr⟩ := nearest_le s m i
  have : isNaN (Ieee.double.nearest s m i) = false := by
    unfold isNaN
    rw [h]
    rcases read_word_le s hr with e | ⟨m, i, e⟩ <;> rw [e] <;> rfl
  unfold canon
  rw [this]; rfl

def sclF (x : Fl) (k : Int) : Fl := match x with
  | some b => match Ieee.double.read b with
    | .number s m i => some (Ieee.double.nearest s m (i + k))
    | _ => some b
  | none => none
theorem sclF_num {b : Nat} {s : Bool} {m : Nat} {i : Int} (h : Ieee.double.read b = .number s m i) (k : Int) : sclF (some b) k = some (Ieee.double.nearest s m (i + k)) := by
  unfold sclF; simp only [h]
theorem law_Times {N : Nat} (hN : 1000 <= N) {x : Fl} (hx : finF x = true) (hw : FW x) {k : Int} (hk1 : -5000 <= k) (hk2 : k <= 5000) (κ : Fl -> Bool) : sj151 N x k κ = κ (sclF x k) := by
  obtain ⟨b, s, m, i, rfl, h⟩ := finF_num hx
  have hb := hw b rfl
  unfold sj151 Gj151
  obtain ⟨f, g, hf⟩ := law_Scale hN hb h hk1 hk2 (fun (nr_1 : Int) (nr_2 : Int) (nr_3 : Int) => sj97 N nr_1 (fun (xr : Fl) => κ xr))
  have e : sj106 N (some b) = fun k => k (b : Int) := rfl
  rw [e]
  refine hf.trans ?_
  rw [sclF_num h]
  show κ (canon (Int.toNat ((Ieee.double.nearest s m (i + k) : Nat) : Int))) = _
  rw [Int.toNat_natCast, canon_nearest]
end Go.Proofs.YtccocdgimamdhaaGreatDoor
end
section
namespace Go.Proofs.YtccocdgimamdhaaGreatDoor
open Go Go.Mach Ieee
set_option linter.unusedVariables false

theorem flt_w (a b : Nat) : flt (some a) (some b) = ((Ieee.double.read a).order (Ieee.double.read b) == some .lt) := rfl
theorem feq_w (a b : Nat) : feq (some a) (some b) = ((Ieee.double.read a).order (Ieee.double.read b) == some .eq) := rfl
theorem fgt_w (a b : Nat) : fgt (some a) (some b) = ((Ieee.double.read a).order (Ieee.double.read b) == some .gt) := rfl
theorem fmul_w (a b : Nat) : fmul (some a) (some b) = ((Ieee.double.read a).product (Ieee.double.read b)).map Ieee.double.write := rfl
theorem absF_num {b : Nat} (hb : W64 b) {s : Bool} {m : Nat} {i : Int} (h : Ieee.double.read b = .number s m i) : ∃ c, absF (some b) = some c /\ W64 c /\ Ieee.double.read c = .number false m i := by
  have e : Ieee.double.read (b % 9223372036854775808) = .number false m i := by
    obtain ⟨hs, hlt, h⟩ := read_number h
    unfold Format.read
    simp only [signWeight_d, binade_d, infRung_d, leastPlace_d]
    have e1 : b % 9223372036854775808 % 9223372036854775808 = b % 9223372036854775808 := by omega
    have e2 : (b % 9223372036854775808 / 9223372036854775808 % 2 == 1) = false := by
      rw [beq_eq_false_iff_ne]; omega
    rw [e1, e2]
    rcases h with ⟨h1, rfl, rfl⟩ | ⟨h1, rfl, rfl⟩
    · rw [if_pos h1]
    · rw [if_neg (by omega), if_pos hlt]
  have hn : isNaN (b % 9223372036854775808) = false := by unfold isNaN; rw [e]; rfl
  refine ⟨b % 9223372036854775808, ?_, by unfold W64 at *; omega, e⟩
  show canon _ = _
  unfold canon; rw [hn]; rfl
theorem read_two52 : Ieee.double.read 4841369599423283200 = .number false 4503599627370496 0 := by decide
theorem read_least : Ieee.double.read 4503599627370496 = .number false 4503599627370496 (-1074) := by decide
theorem read_tiny53 : Ieee.double.read 4368491638549381120 = .number false 4503599627370496 (-105) := by decide
theorem flt_least {c : Nat} {m : Nat} {i : Int} (h : Ieee.double.read c = .number false m i) : flt (some c) (some 4503599627370496) = decide (m < 4503599627370496 /\ i = -1074) := by
  have hg := place_ge h
  have hr := read_number h
  rw [flt_w, h, read_least]
  simp only [Datum.order]
  have hmin : min i (-1074) = -1074 := by omega
  have e0 : (-1074 - -1074 : Int).toNat = 0 := by decide
  rw [hmin, e0]
  have s1 : signed false m (i - -1074).toNat = ((m <<< (i - -1074).toNat : Nat) : Int) := rfl
  have s2 : signed false 4503599627370496 0 = ((4503599627370496 : Nat) : Int) := rfl
  rw [s1, s2, Nat.shiftLeft_eq]
  have hp : 0 < 2 ^ (i - -1074).toNat := Nat.two_pow_pos _
  have hle : m <= m * 2 ^ (i - -1074).toNat := Nat.le_mul_of_pos_right m hp
  by_cases hc : m < 4503599627370496 /\ i = -1074
  · rw [decide_eq_true hc]
    obtain ⟨h1, rfl⟩ := hc
    rw [e0, Nat.pow_zero, Nat.mul_one]
    have : compare (m : Int) ((4503599627370496 : Nat) : Int) = .lt := Int.compare_eq_lt.2 (by omega)
    rw [this]; rfl
  · rw [decide_eq_false hc]
    have hm : 4503599627370496 <= m := by
      rcases hr.2.2 with ⟨h1, rfl, rfl⟩ | ⟨h1, rfl, rfl⟩
      · omega
      · omega
    generalize m * 2 ^ (i - -1074).toNat = q at hle
    have : compare (q : Int) ((4503599627370496 : Nat) : Int) ≠ .lt := fun e => by
      have := Int.compare_eq_lt.1 e; omega
    cases e : compare (q : Int) ((4503599627370496 : Nat) : Int) with
    | lt => exact absurd e this
    | eq => rfl
    | gt => rfl

theorem law_normalize (N : Nat) {b : Nat} (hb : W64 b) {s : Bool} {m : Nat} {i : Int} (h : Ieee.double.read b = .number s m i) (h0 : m ≠ 0) :
    ∃ b' M P adj, (∀ κ : Fl -> Int -> Bool, sj76 N (some b) κ = κ (some b') adj) /\ W64 b' /\ Ieee.double.read b' = .number s M P /\ 4503599627370496 <= M /\ M < 9007199254740992 /\ -1074 <= P /\ P <= 971 /\ -52 <= adj /\ (adj <= 0 /\ P + adj = i + m.log2 - 52) /\ ∀ k, Ieee.double.nearest s M (P + adj + k) = Ieee.double.nearest s m (i + k) := by
  obtain ⟨c, hc, hcw, hcr⟩ := absF_num hb h
  have hp := place_le h
  have hg := place_ge h
  have hr := read_number h
  by_cases hd : m < 4503599627370496 /\ i = -1074
  · obtain ⟨h1, rfl⟩ := hd
    have hl : m.log2 < 52 := (Nat.log2_lt h0).2 (by simpa using h1)
    obtain ⟨hM1, hM2⟩ := lift52 h0 hp.2
    have hmul : fmul (some b) (some 4841369599423283200) = some (Ieee.double.nearest s (m * 4503599627370496) (-1074)) := by
      rw [fmul_w, h, read_two52]
      have e : (Datum.number s m (-1074)).product (.number false 4503599627370496 0) = some (.number (s ^^ false) (m * 4503599627370496) (-1074 + 0)) := rfl
      rw [e, Option.map_some, Bool.xor_false, Int.add_zero, write_number]
    have hn : Ieee.double.nearest s (m * 4503599627370496) (-1074) = Ieee.double.nearest s (m <<< (52 - m.log2)) (-1074 + m.log2) := by
      have := nearest_shift s (m <<< (52 - m.log2)) (-1074 + m.log2) m.log2
      rw [<- Nat.shiftLeft_add, show 52 - m.log2 + m.log2 = 52 by omega] at this
      have e1 : m * 4503599627370496 = m <<< 52 := by
        have : (2 : Nat) ^ 52 = 4503599627370496 := by decide
        rw [Nat.shiftLeft_eq, this]
      have e2 : (-1074 + (m.log2 : Int)) - (m.log2 : Int) = -1074 := by omega
      rw [e2] at this
      rw [e1, this]
    have hw : Ieee.double.nearest s (m <<< (52 - m.log2)) (-1074 + m.log2) = Ieee.double.word s ((-1074 + (m.log2 : Int) + 1075).toNat * 4503599627370496 + (m <<< (52 - m.log2) - 4503599627370496)) :=
      write_read (word_W64 s (by omega)) (read_normal s _ _ ⟨hM1, hM2⟩ (by omega))
    refine ⟨Ieee.double.word s ((-1074 + (m.log2 : Int) + 1075).toNat * 4503599627370496 + (m <<< (52 - m.log2) - 4503599627370496)), m <<< (52 - m.log2), -1074 + m.log2, -52, fun κ => ?_, word_W64 s (by omega), read_normal s _ _ ⟨hM1, hM2⟩ (by omega), hM1, hM2, by omega, by omega, by omega, ⟨by omega, by omega⟩, fun k => ?_⟩
    · unfold sj76 Gj76
      show cond (flt (absF (some b)) (some 4503599627370496)) _ _ = _
      rw [hc, flt_least hcr, decide_eq_true ⟨h1, rfl⟩, cond_true, hmul, hn, hw]
    · have e : (-1074 + (m.log2 : Int) + -52 + k) = -1074 + k - ((52 - m.log2 : Nat) : Int) := by omega
      rw [e, nearest_lift]
  · have hm : 4503599627370496 <= m := by
      rcases hr.2.2 with ⟨h1, rfl, rfl⟩ | ⟨h1, rfl, rfl⟩
      · omega
      · omega
    refine ⟨b, m, i, 0, fun κ => ?_, hb, h, hm, hp.2, hg, hp.1, by omega, ⟨by omega, by rw [log2_normal ⟨hm, hp.2⟩]; omega⟩, fun k => by rw [Int.add_zero]⟩
    unfold sj76 Gj76
    show cond (flt (absF (some b)) (some 4503599627370496)) _ _ = _
    rw [hc, flt_least hcr, decide_eq_false hd, cond_false]

theorem feq_zero {b : Nat} {s : Bool} {m : Nat} {i : Int} (h : Ieee.double.read b = .number s m i) : feq (some b) (some 0) = decide (m = 0) := by
  rw [feq_w, h, read_zero]
  simp only [Datum.order, signed_zero]
  by_cases h0 : m = 0
  · subst h0; rw [signed_zero]; rfl
  · rw [decide_eq_false h0]
    have hp : m <<< (i - min i (-1074)).toNat ≠ 0 := by
      rw [Nat.shiftLeft_eq]
      exact Nat.mul_ne_zero h0 (Nat.ne_of_gt (Nat.two_pow_pos _))
    have hne : signed s m (i - min i (-1074)).toNat ≠ 0 := by
      unfold signed
      generalize m <<< (i - min i (-1074)).toNat = q at hp
      cases s <;> simp <;> omega
    cases e : compare (signed s m (i - min i (-1074)).toNat) 0 with
    | lt => rfl
    | gt => rfl
    | eq => exact absurd (Int.compare_eq_eq.1 e) hne
theorem law_IsNaN (N : Nat) (x : Fl) (k : Bool -> Bool) : sj146 N x k = k (!feq x x) := rfl
theorem law_IsInf_fin (N : Nat) {x : Fl} (hx : finF x = true) (hw : FW x) (k : Bool -> Bool) : sj138 N x 0 k = k false := by
  obtain ⟨b, s, m, i, rfl, h⟩ := finF_num hx
  obtain ⟨c, hc, hcw, hcr⟩ := absF_num (hw b rfl) h
  have hp := place_le hcr
  have hg := place_ge hcr
  unfold sj138 Gj138
  show k (fgt (absF (some b)) (some 9218868437227405311)) = _
  rw [hc]
  congr 1
  have hr : Ieee.double.read 9218868437227405311 = .number false 9007199254740991 971 := by decide
  rw [fgt_w, hcr, hr]
  simp only [Datum.order]
  have hmin : min i 971 = i := by omega
  have e0 : (i - i).toNat = 0 := by omega
  rw [hmin, e0]
  have s1 : signed false m 0 = ((m : Nat) : Int) := rfl
  have s2 : signed false 9007199254740991 (971 - i).toNat = ((9007199254740991 <<< (971 - i).toNat : Nat) : Int) := rfl
  rw [s1, s2, Nat.shiftLeft_eq]
  have hpw : 0 < 2 ^ (971 - i).toNat := Nat.two_pow_pos _
  have hle : 9007199254740991 <= 9007199254740991 * 2 ^ (971 - i).toNat := Nat.le_mul_of_pos_right _ hpw
  generalize 9007199254740991 * 2 ^ (971 - i).toNat = q at hle
  have : compare (m : Int) (q : Int) ≠ .gt := fun e => by
    have := Int.compare_eq_gt.1 e; omega
  cases e : compare (m : Int) (q : Int) with
  | gt => exact absurd e this
  | eq => rfl
  | lt => rfl

theorem expo {b : Nat} (hb : W64 b) {s : Bool} {M : Nat} {P : Int} (h : Ieee.double.read b = .number s M P) (hM : 4503599627370496 <= M) : ((b / 4503599627370496 % 2048 : Nat) : Int) = P + 1075 := by
  obtain ⟨-, hlt, h⟩ := read_number h
  rcases h with ⟨h1, rfl, rfl⟩ | ⟨h1, rfl, rfl⟩
  · omega
  · omega
theorem law_frexp (N : Nat) {x : Fl} (hx : finF x = true) (hw : FW x) (h0 : feq x (some 0) = false) : ∃ fr e, (∀ κ : Fl -> Int -> Bool, sj136 N x κ = κ fr e) /\ -1200 <= e /\ e <= 1200 /\ ∀ b s m i, x = some b -> Ieee.double.read b = .number s m i -> e = i + m.log2 + 1 := by
  obtain ⟨b, s, m, i, rfl, h⟩ := finF_num hx
  have hb := hw b rfl
  have hm : m ≠ 0 := by
    rw [feq_zero h] at h0
    exact of_decide_eq_false h0
  obtain ⟨b', M, P, adj, h1, h2, h3, h4, h5, h6, h7, h8, h9, h10⟩ := law_normalize N hb h hm
  have he := expo h2 h3 h4
  refine ⟨canon (Int.toNat (bitsN .or .u64 (bitsN .andNot .u64 (b' : Int) 9218868437227405312) 4602678819172646912)), adj + (P + 1075 - 1023 + 1), fun κ => ?_, by omega, by omega, fun b2 s2 m2 i2 hx2 hr2 => by cases hx2; rw [h] at hr2; cases hr2; omega⟩
  · unfold sj136 Gj136 sj194 Gj194
    rw [h0, cond_false, law_IsInf_fin N hx hw]
    dsimp only
    rw [show ((false : Bool) == false) = true from rfl, cond_true, law_IsNaN, feq_refl hx, Bool.not_true, cond_false, h1]
    have e : sj106 N (some b') = fun k => k (b' : Int) := rfl
    rw [e]
    dsimp only
    rw [fdiv52, and11, he, and_tr (fits_ok (by omega) (by omega)), and_tr (fits_ok (by omega) (by omega)), and_tr (fits_ok (by omega) (by omega)), and_tr (fits_ok (by omega) (by omega))]
    rfl

theorem and11_i (n : Nat) (h : n < 4096) : bitsN .and .i64 (n : Int) 2047 = ((n % 2048 : Nat) : Int) := by
  unfold bitsN bitsI
  simp only [Option.getD_some]
  have h2047 : (2047 : Int) = ((2 ^ 11 - 1 : Nat) : Int) := by simp
  rw [h2047]
  have e : ((BitVec.ofInt (IntKind.bits .i64) (n : Int)) &&& (BitVec.ofInt (IntKind.bits .i64) ((2 ^ 11 - 1 : Nat) : Int))).toNat = n % 2048 := by
    show ((BitVec.ofInt 64 (n : Int)) &&& (BitVec.ofInt 64 ((2 ^ 11 - 1 : Nat) : Int))).toNat = n % 2 ^ 11
    rw [BitVec.toNat_and, BitVec.ofInt_natCast, BitVec.ofInt_natCast, BitVec.toNat_ofNat, BitVec.toNat_ofNat, Nat.mod_eq_of_lt (a := 2 ^ 11 - 1) (by decide), Nat.and_two_pow_sub_one_eq_mod, Nat.mod_mod_of_dvd]
    exact Nat.pow_dvd_pow 2 (by decide)
  rw [e]
  have hw : ∀ z : Nat, z < 4096 -> IntKind.wrap .i64 (z : Int) = z := fun z hz => by
    unfold IntKind.wrap
    have h1 : IntKind.signed .i64 = true := rfl
    have h2 : IntKind.bits .i64 = 64 := rfl
    have h3 : (2 : Int) ^ 64 = 18446744073709551616 := by decide
    have h4 : (2 : Int) ^ (64 - 1) = 9223372036854775808 := by decide
    simp only [h1, h2, h3, h4, Bool.true_and, decide_eq_true_eq]
    split <;> omega
  rw [hw _ (by omega)]
theorem flt_zero {b : Nat} {s : Bool} {m : Nat} {i : Int} (h : Ieee.double.read b = .number s m i) (h0 : m ≠ 0) : flt (some b) (some 0) = s := by
  rw [flt_w, h, read_zero]
  simp only [Datum.order, signed_zero]
  have hp : m <<< (i - min i (-1074)).toNat ≠ 0 := by
    rw [Nat.shiftLeft_eq]
    exact Nat.mul_ne_zero h0 (Nat.ne_of_gt (Nat.two_pow_pos _))
  cases s with
  | true =>
    have : signed true m (i - min i (-1074)).toNat < 0 := by
      show -((m <<< (i - min i (-1074)).toNat : Nat) : Int) < 0
      generalize m <<< (i - min i (-1074)).toNat = q at hp
      omega
    rw [Int.compare_eq_lt.2 this]; rfl
  | false =>
    have : 0 < signed false m (i - min i (-1074)).toNat := by
      show 0 < ((m <<< (i - min i (-1074)).toNat : Nat) : Int)
      generalize m <<< (i - min i (-1074)).toNat = q at hp
      omega
    rw [Int.compare_eq_gt.2 this]; rfl
theorem num_sign {b : Nat} (hb : W64 b) {s : Bool} {m : Nat} {i : Int} (h : Ieee.double.read b = .number s m i) : b / 9223372036854775808 * 9223372036854775808 = Ieee.double.word s 0 := by
  obtain ⟨rfl, -, -⟩ := read_number h
  unfold Format.word; rw [signWeight_d]
  unfold W64 at hb
  by_cases h1 : b / 9223372036854775808 % 2 = 1
  · rw [h1]; simp; omega
  · rw [show (b / 9223372036854775808 % 2 == 1) = false by rw [beq_eq_false_iff_ne]; exact h1]; simp; omega
theorem copysign_zero (N : Nat) {b : Nat} (hb : W64 b) {s : Bool} {m : Nat} {i : Int} (h : Ieee.double.read b = .number s m i) (κ : Fl -> Bool) : sj116 N (some 0) (some b) κ = κ (some (Ieee.double.word s 0)) := by
  unfold sj116 Gj116
  have e0 : sj106 N (some 0) = fun k => k ((0 : Nat) : Int) := rfl
  have e1 : sj106 N (some b) = fun k => k (b : Int) := rfl
  rw [e0, e1]
  dsimp only
  have hand : bitsN .and .u64 (b : Int) 9223372036854775808 = ((b / 9223372036854775808 * 9223372036854775808 : Nat) : Int) := by
    unfold bitsN bitsI
    simp only [Option.getD_some]
    unfold W64 at hb
    have e : ((BitVec.ofInt (IntKind.bits .u64) (b : Int)) &&& (BitVec.ofInt (IntKind.bits .u64) (9223372036854775808 : Int))).toNat = b / 9223372036854775808 * 9223372036854775808 := by
      show ((BitVec.ofInt 64 (b : Int)) &&& (BitVec.ofInt 64 ((2 ^ 63 : Nat) : Int))).toNat = _
      have h64 : (2 : Nat) ^ 64 = 18446744073709551616 := by decide
      have h63 : (2 : Nat) ^ 63 = 9223372036854775808 := by decide
      rw [BitVec.toNat_and, BitVec.ofInt_natCast, BitVec.ofInt_natCast, BitVec.toNat_ofNat, BitVec.toNat_ofNat, Nat.mod_eq_of_lt (by omega), Nat.mod_eq_of_lt (a := 2 ^ 63) (by decide)]
      have hq : b / 9223372036854775808 = 0 \/ b / 9223372036854775808 = 1 := by omega
      have ht := Nat.testBit_eq_decide_div_mod_eq (x := b) (i := 63)
      rw [h63] at ht
      rcases hq with hq | hq
      · rw [hq, Nat.zero_mul]
        rw [hq] at ht
        apply Nat.eq_of_testBit_eq
        intro j
        rw [Nat.testBit_and, Nat.testBit_two_pow, Nat.zero_testBit]
        by_cases hj : 63 = j
        · subst hj; rw [ht]; rfl
        · rw [decide_eq_false hj, Bool.and_false]
      · rw [hq, Nat.one_mul, <- h63]
        rw [hq] at ht
        apply Nat.eq_of_testBit_eq
        intro j
        rw [Nat.testBit_and, Nat.testBit_two_pow]
        by_cases hj : 63 = j
        · subst hj; rw [ht]; rfl
        · rw [decide_eq_false hj, Bool.and_false]
    rw [e, wrap_u64 _ (by omega)]
  have h00 : bitsN .andNot .u64 ((0 : Nat) : Int) 9223372036854775808 = 0 := by rw [bitsN_andNot_top]; rfl
  rw [hand, h00, num_sign hb h, or0 _ (word_W64 s (by decide))]
  show κ (canon (Int.toNat ((Ieee.double.word s 0 : Nat) : Int))) = _
  rw [Int.toNat_natCast]
  congr 1
  cases s <;> decide

theorem law_Inf_neg (N : Nat) (κ : Fl -> Bool) : s_m_Inf N (-1) κ = κ (some 18442240474082181120) := by
  unfold s_m_Inf G_m_Inf
  rw [decide_eq_false (by decide), cond_false]
  show κ (canon 18442240474082181120) = _
  congr 1
theorem law_Inf_pos (N : Nat) (κ : Fl -> Bool) : s_m_Inf N 1 κ = κ (some 9218868437227405312) := by
  unfold s_m_Inf G_m_Inf
  rw [decide_eq_true (by decide), cond_true]
  show κ (canon 9218868437227405312) = _
  congr 1
theorem word_inf (s : Bool) : Ieee.double.word s 9218868437227405312 = cond s 18442240474082181120 9218868437227405312 := by cases s <;> decide
theorem or_swap (a b : Nat) (ha : a < 9223372036854775808) (hb : b < 9223372036854775808) : bitsN .or .u64 (bitsN .or .u64 (a : Int) 9223372036854775808) (b : Int) = bitsN .or .u64 (bitsN .or .u64 (a : Int) (b : Int)) 9223372036854775808 := by
  have hor : ∀ u v : Nat, u < 18446744073709551616 -> v < 18446744073709551616 -> bitsN .or .u64 (u : Int) (v : Int) = ((u ||| v : Nat) : Int) := fun u v hu hv => by
    unfold bitsN bitsI
    simp only [Option.getD_some]
    have h64 : (2 : Nat) ^ 64 = 18446744073709551616 := by decide
    have e : ((BitVec.ofInt (IntKind.bits .u64) (u : Int)) ||| (BitVec.ofInt (IntKind.bits .u64) (v : Int))).toNat = u ||| v := by
      show ((BitVec.ofInt 64 (u : Int)) ||| (BitVec.ofInt 64 (v : Int))).toNat = _
      rw [BitVec.toNat_or, BitVec.ofInt_natCast, BitVec.ofInt_natCast, BitVec.toNat_ofNat, BitVec.toNat_ofNat, Nat.mod_eq_of_lt (by omega), Nat.mod_eq_of_lt (by omega)]
    rw [e, wrap_u64 _ (by
      have := Nat.or_lt_two_pow (n := 64) (x := u) (y := v) (by omega) (by omega)
      omega)]
  have h64 : (2 : Nat) ^ 64 = 18446744073709551616 := by decide
  have o1 := Nat.or_lt_two_pow (n := 64) (x := a) (y := 9223372036854775808) (by omega) (by omega)
  have o2 := Nat.or_lt_two_pow (n := 64) (x := a) (y := b) (by omega) (by omega)
  have c : (9223372036854775808 : Int) = ((9223372036854775808 : Nat) : Int) := rfl
  rw [c, hor a _ (by omega) (by decide), hor _ b (by omega) (by omega), hor a b (by omega) (by omega), hor _ _ (by omega) (by decide), Nat.or_assoc, Nat.or_assoc, Nat.or_comm b]
theorem law_lay {b : Nat} (hb : W64 b) {s : Bool} {M : Nat} {P : Int} (h : Ieee.double.read b = .number s M P) (hM : 4503599627370496 <= M) {E : Int} (h1 : 0 < E) (h2 : E < 2047) :
    bitsN .or .u64 (bitsN .andNot .u64 (b : Int) 9218868437227405312) (IntKind.wrap .u64 ((IntKind.wrap .u64 E) * 2 ^ 52)) = ((Ieee.double.word s (E.toNat * 4503599627370496 + (M - 4503599627370496)) : Nat) : Int) := by
  have hs := num_sign hb h
  obtain ⟨hsg, hlt, hr⟩ := read_number h
  have hf : M - 4503599627370496 = b % 4503599627370496 := by
    rcases hr with ⟨h1, rfl, rfl⟩ | ⟨h1, rfl, rfl⟩
    · omega
    · omega
  obtain ⟨e, rfl⟩ : ∃ e : Nat, E = e := ⟨E.toNat, by omega⟩
  have e1 : IntKind.wrap .u64 (IntKind.wrap .u64 (e : Int) * 2 ^ 52) = ((2 ^ 52 * e : Nat) : Int) := by
    rw [wrap_u64 e (by omega), wrap64]
    have h3 : (2 : Int) ^ 52 = 4503599627370496 := by decide
    have h4 : (2 : Nat) ^ 52 = 4503599627370496 := by decide
    rw [h3, h4]; omega
  rw [e1, andNot_mid hb, hs, hf, Int.toNat_natCast]
  have p52 : (2 : Nat) ^ 52 = 4503599627370496 := by decide
  cases s with
  | false =>
    have w0 : Ieee.double.word false 0 = 0 := by decide
    rw [w0, Nat.zero_add, bitsN_or_disj64 _ e 52 (by rw [p52]; omega) (by rw [p52]; omega), p52]
    unfold Format.word
    simp only [Bool.false_eq_true, if_false]
    rw [Nat.mul_comm 4503599627370496 e]
  | true =>
    have w0 : Ieee.double.word true 0 = 9223372036854775808 := by decide
    rw [w0]
    have hsplit : bitsN .or .u64 ((9223372036854775808 + b % 4503599627370496 : Nat) : Int) ((2 ^ 52 * e : Nat) : Int) = ((9223372036854775808 + (2 ^ 52 * e + b % 4503599627370496) : Nat) : Int) := by
      rw [<- orTop (b % 4503599627370496) (by omega), <- orTop (2 ^ 52 * e + b % 4503599627370496) (by rw [p52]; omega), <- bitsN_or_disj64 (b % 4503599627370496) e 52 (by rw [p52]; omega) (by rw [p52]; omega)]
      exact or_swap _ _ (by omega) (by rw [p52]; omega)
    rw [hsplit]
    unfold Format.word
    rw [signWeight_d]
    simp only [if_true]
    rw [p52, Nat.mul_comm 4503599627370496 e]
theorem law_Ldexp (N : Nat) {x : Fl} (hx : finF x = true) (hw : FW x) {k : Int} (hk1 : -5000 <= k) (hk2 : k <= 5000) (κ : Fl -> Bool) : sj187 N x k κ = κ (sclF x k) := by
  obtain ⟨b, s, m, i, rfl, h⟩ := finF_num hx
  have hb := hw b rfl
  rw [sclF_num h]
  unfold sj187 Gj187 sj188 Gj188
  rw [feq_zero h]
  by_cases h0 : m = 0
  · subst h0
    rw [decide_eq_true rfl, cond_true, nearest_zero, mag0_word hb h]
  · rw [decide_eq_false h0, cond_false, law_IsInf_fin N hx hw]
    dsimp only
    rw [show ((false : Bool) == false) = true from rfl, cond_true, law_IsNaN, feq_refl hx, Bool.not_true, cond_false]
    obtain ⟨b', M, P, adj, h1, h2, h3, h4, h5, h6, h7, h8, h9, h10⟩ := law_normalize N hb h h0
    have he := expo h2 h3 h4
    have hM0 : M ≠ 0 := by omega
    have hP : (P + adj + k) = P + adj + k := rfl
    rw [h1, <- h10 k]
    have e0 : sj106 N (some b') = fun k => k (b' : Int) := rfl
    rw [e0]
    dsimp only
    have hb' : b' < 18446744073709551616 := h2
    rw [and_tr (fits_ok (by omega) (by omega)), fdiv52, and_tr (fits_ok (by omega) (by omega)), and11_i _ (by omega), he, and_tr (fits_ok (by omega) (by omega)), and_tr (fits_ok (by omega) (by omega))]
    have e1 : k + adj + (P + 1075 - 1023) = P + adj + k + 52 := by omega
    rw [e1]
    generalize hQ : P + adj + k = Q
    by_cases c1 : Q + 52 < -1075
    · rw [decide_eq_true c1, cond_true, copysign_zero N h2 h3, nearest_tiny s ⟨h4, h5⟩ (by omega)]
    · rw [decide_eq_false c1, cond_false]
      by_cases c2 : Q + 52 > 1023
      · rw [decide_eq_true c2, cond_true, flt_zero h3 hM0, nearest_huge s ⟨h4, h5⟩ (by omega), word_inf]
        cases s
        · rw [cond_false, law_Inf_pos]; rfl
        · rw [cond_true, law_Inf_neg]; rfl
      · rw [decide_eq_false c2, cond_false]
        have hjump : ∀ (E : Int) (c : Nat) , 0 < E + 1023 -> E + 1023 < 2047 -> fits .i64 (E + 1023) = true := fun E c a1 a2 => fits_ok (by omega) (by omega)
        by_cases c3 : Q + 52 < -1022
        · rw [decide_eq_true c3, cond_true, and_tr (fits_ok (by omega) (by omega))]
          unfold Jj232
          rw [and_tr (fits_ok (by omega) (by omega)), law_lay h2 h3 h4 (by omega) (by omega)]
          show κ (fmul _ (canon (Int.toNat ((_ : Nat) : Int)))) = _
          rw [Int.toNat_natCast]
          have hE : (Q + 52 + 53 + 1023) = (Q + 53) + 1075 := by omega
          rw [hE]
          have hrd := read_normal s M (Q + 53) ⟨h4, h5⟩ (by omega)
          have hcn : canon (Ieee.double.word s ((Q + 53 + 1075).toNat * 4503599627370496 + (M - 4503599627370496))) = some (Ieee.double.word s ((Q + 53 + 1075).toNat * 4503599627370496 + (M - 4503599627370496))) := by
            have hn : isNaN (Ieee.double.word s ((Q + 53 + 1075).toNat * 4503599627370496 + (M - 4503599627370496))) = false := by unfold isNaN; rw [hrd]; rfl
            unfold canon; rw [hn]; rfl
          rw [hcn, fmul_w, read_tiny53, hrd]
          have e : (Datum.number false 4503599627370496 (-105)).product (.number s M (Q + 53)) = some (.number (false ^^ s) (4503599627370496 * M) (-105 + (Q + 53))) := rfl
          rw [e, Option.map_some, Bool.false_xor, write_number]
          have e5 : 4503599627370496 * M = M <<< 52 := by
            have : (2 : Nat) ^ 52 = 4503599627370496 := by decide
            rw [Nat.shiftLeft_eq, this, Nat.mul_comm]
          have e6 : (-105 + (Q + 53)) = Q - ((52 : Nat) : Int) := by omega
          rw [e5, e6, nearest_shift]
        · rw [decide_eq_false c3, cond_false]
          unfold Jj232
          rw [and_tr (fits_ok (by omega) (by omega)), law_lay h2 h3 h4 (by omega) (by omega)]
          show κ (fmul _ (canon (Int.toNat ((_ : Nat) : Int)))) = _
          rw [Int.toNat_natCast]
          have hE : (Q + 52 + 1023) = Q + 1075 := by omega
          rw [hE]
          have hrd := read_normal s M Q ⟨h4, h5⟩ (by omega)
          have hW : W64 (Ieee.double.word s ((Q + 1075).toNat * 4503599627370496 + (M - 4503599627370496))) := word_W64 s (by omega)
          have hcn : canon (Ieee.double.word s ((Q + 1075).toNat * 4503599627370496 + (M - 4503599627370496))) = some (Ieee.double.word s ((Q + 1075).toNat * 4503599627370496 + (M - 4503599627370496))) := by
            have hn : isNaN (Ieee.double.word s ((Q + 1075).toNat * 4503599627370496 + (M - 4503599627370496))) = false := by unfold isNaN; rw [hrd]; rfl
            unfold canon; rw [hn]; rfl
          rw [hcn, write_read hW hrd, one_fmul (fun c hc => by cases hc; exact hW) (finF_of hrd)]
end Go.Proofs.YtccocdgimamdhaaGreatDoor
end
section
namespace Go.Proofs.YtccocdgimamdhaaGreatDoor
open Go Go.Mach Ieee
set_option linter.unusedVariables false

theorem write_W64 (d : Datum) : W64 (Ieee.double.write d) := by
  cases d with
  | number s m i => exact nearest_W64 s m i
  | infinity s =>
    have : Ieee.double.write (.infinity s) = Ieee.double.word s 9218868437227405312 := by rw [<- infRung_d]; rfl
    rw [this]; exact word_W64 s (by decide)
  | nan s f =>
    have : Ieee.double.write (.nan s f) = Ieee.double.word s (9218868437227405312 + f % 4503599627370496) := by rw [<- infRung_d, <- binade_d]; rfl
    rw [this]; exact word_W64 s (by omega)
theorem map_W64 {o : Option Datum} : FW (o.map Ieee.double.write) := by
  intro b hb
  cases o with
  | none => cases hb
  | some d => cases hb; exact write_W64 d
theorem FW_bin {f : Nat -> Nat -> Option Nat} (hf : ∀ a b c, f a b = some c -> W64 c) (x y : Fl) : FW (fbin f x y) := by
  intro c hc
  cases x with
  | none => cases hc
  | some a => cases y with
    | none => cases hc
    | some b => exact hf a b c hc
theorem FW_fadd (x y : Fl) : FW (fadd x y) := FW_bin (fun a b c h => map_W64 c h) x y
theorem FW_fsub (x y : Fl) : FW (fsub x y) := FW_bin (fun a b c h => map_W64 c h) x y
theorem FW_zero : FW (some 0) := fun b h => by cases h; decide
theorem FW_absF {x : Fl} : FW (absF x) := by
  cases x with
  | none => intro c h; cases h
  | some d => exact canon_FW (n := d % 9223372036854775808) (by unfold W64; omega)

theorem sum_comm (d e : Datum) : d.sum e = e.sum d := by
  cases d <;> cases e <;> simp only [Datum.sum]
  · rename_i s m i t n j
    rw [Int.min_comm i j, Int.add_comm, Bool.and_comm s t]
  · rename_i s t
    by_cases h : s = t
    · subst h; rfl
    · rw [if_neg h, if_neg (fun e => h e.symm)]
theorem fadd_comm (x y : Fl) : fadd x y = fadd y x := by
  cases x with
  | none => cases y <;> rfl
  | some a => cases y with
    | none => rfl
    | some b =>
      show ((Ieee.double.read a).sum (Ieee.double.read b)).map _ = ((Ieee.double.read b).sum (Ieee.double.read a)).map _
      rw [sum_comm]

def NN (x : Fl) : Prop := ∃ b, x = some b /\ W64 b /\ ((∃ m i, Ieee.double.read b = .number false m i) \/ Ieee.double.read b = .infinity false)
theorem NN_word {r : Nat} (h : r <= 9218868437227405312) : NN (some (Ieee.double.word false r)) := by
  refine ⟨_, rfl, word_W64 false (by omega), ?_⟩
  rcases read_word_le false h with e | ⟨m, i, e⟩
  · exact .inr e
  · exact .inl ⟨m, i, e⟩
theorem NN_write_num (m : Nat) (i : Int) : NN (some (Ieee.double.write (.number false m i))) := by
  rw [write_number]
  obtain ⟨r, h, hr⟩ := nearest_le false m i
  rw [h]; exact NN_word hr
theorem NN_write_inf : NN (some (Ieee.double.write (.infinity false))) := by
  have : Ieee.double.write (.infinity false) = Ieee.double.word false 9218868437227405312 := by rw [<- infRung_d]; rfl
  rw [this]; exact NN_word (by decide)
theorem NN_square {x : Fl} {b : Nat} (hx : x = some b) (h : (∃ s m i, Ieee.double.read b = .number s m i) \/ ∃ s, Ieee.double.read b = .infinity s) : NN (fmul x x) := by
  subst hx
  rw [fmul_w]
  rcases h with ⟨s, m, i, e⟩ | ⟨s, e⟩
  · rw [e]
    have : (Datum.number s m i).product (.number s m i) = some (.number (s ^^ s) (m * m) (i + i)) := rfl
    rw [this, Bool.xor_self, Option.map_some]; exact NN_write_num _ _
  · rw [e]
    have : (Datum.infinity s).product (.infinity s) = some (.infinity (s ^^ s)) := rfl
    rw [this, Bool.xor_self, Option.map_some]; exact NN_write_inf
theorem NN_sclF {x : Fl} (hx : finF x = true) (k : Int) : NN (fmul (sclF x k) (sclF x k)) := by
  obtain ⟨b, s, m, i, rfl, h⟩ := finF_num hx
  rw [sclF_num h]
  refine NN_square rfl ?_
  obtain ⟨r, hr, hle⟩ := nearest_le s m (i + k)
  rw [hr]
  rcases read_word_le s hle with e | ⟨m, i, e⟩
  · exact .inr ⟨s, e⟩
  · exact .inl ⟨s, m, i, e⟩
theorem NN_fadd {x y : Fl} (hx : NN x) (hy : NN y) : NN (fadd x y) := by
  obtain ⟨a, rfl, -, ha⟩ := hx
  obtain ⟨b, rfl, -, hb⟩ := hy
  show NN (((Ieee.double.read a).sum (Ieee.double.read b)).map Ieee.double.write)
  rcases ha with ⟨m, i, ha⟩ | ha <;> rcases hb with ⟨n, j, hb⟩ | hb <;> rw [ha, hb]
  · simp only [Datum.sum, Option.map_some]
    have h1 : signed false m (i - min i j).toNat = ((m <<< (i - min i j).toNat : Nat) : Int) := rfl
    have h2 : signed false n (j - min i j).toNat = ((n <<< (j - min i j).toNat : Nat) : Int) := rfl
    rw [h1, h2]
    generalize m <<< (i - min i j).toNat = p
    generalize n <<< (j - min i j).toNat = q
    by_cases h0 : (p : Int) + q = 0
    · rw [if_pos h0]; exact NN_write_num _ _
    · rw [if_neg h0, decide_eq_false (by omega)]; exact NN_write_num _ _
  · exact NN_write_inf
  · exact NN_write_inf
  · exact NN_write_inf
theorem zero_fadd_NN {x : Fl} (hx : NN x) : fadd (some 0) x = x := by
  rw [fadd_comm]
  obtain ⟨b, rfl, hw, h⟩ := hx
  rcases h with ⟨m, i, h⟩ | h
  · by_cases hm : m = 0
    · subst hm
      have := mag0_word hw h
      rw [this]
      exact add_zeros_w false false
    · exact add_zero_w (t := false) hw h hm
  · show ((Ieee.double.read b).sum (Ieee.double.read 0)).map Ieee.double.write = some b
    rw [h, read_zero]
    have e : (Datum.infinity false).sum (.number false 0 (-1074)) = some (.infinity false) := rfl
    rw [e, Option.map_some]
    have e2 : Ieee.double.write (.infinity false) = Ieee.double.word false 9218868437227405312 := by rw [<- infRung_d]; rfl
    rw [e2]
    unfold Format.read at h
    simp only [signWeight_d, binade_d, infRung_d] at h
    unfold W64 at hw
    split at h
    · cases h
    · split at h
      · cases h
      · split at h
        · rename_i h1 h2 h3
          have hs : (b / 9223372036854775808 % 2 == 1) = false := by injection h
          have hs2 : b / 9223372036854775808 % 2 ≠ 1 := fun e => by rw [e] at hs; cases hs
          have : b = 9218868437227405312 := by omega
          rw [this]; rfl
        · cases h

def vl (x : Fl) : Int := match x with
  | some b => match Ieee.double.read b with
    | .number s m i => signed s m (i + 1074).toNat
    | _ => 0
  | none => 0
theorem vl_num {b : Nat} {s : Bool} {m : Nat} {i : Int} (h : Ieee.double.read b = .number s m i) : vl (some b) = signed s m (i + 1074).toNat := by unfold vl; simp only [h]
theorem signed_scale (s : Bool) (m a c : Nat) : signed s m (a + c) = signed s m a * 2 ^ c := by
  unfold signed
  rw [Nat.shiftLeft_add]
  generalize m <<< a = q
  have : ((q <<< c : Nat) : Int) = (q : Int) * 2 ^ c := by
    rw [Nat.shiftLeft_eq]; push_cast; rfl
  cases s
  · simp only [Bool.false_eq_true, if_false]; exact this
  · simp only [if_true]; rw [this, Int.neg_mul]
theorem compare_scale (x y : Int) (c : Nat) : compare (x * 2 ^ c) (y * 2 ^ c) = compare x y := by
  have hp : (0 : Int) < 2 ^ c := Int.pow_pos (by decide)
  rcases Int.lt_trichotomy x y with h | h | h
  · rw [Int.compare_eq_lt.2 h, Int.compare_eq_lt.2 (Int.mul_lt_mul_of_pos_right h hp)]
  · subst h; rw [Int.compare_eq_eq.2 rfl, Int.compare_eq_eq.2 rfl]
  · rw [Int.compare_eq_gt.2 h, Int.compare_eq_gt.2 (Int.mul_lt_mul_of_pos_right h hp)]
theorem ford_vl {x y : Fl} (hx : finF x = true) (hy : finF y = true) : ford x y = some (compare (vl x) (vl y)) := by
  obtain ⟨a, s, m, i, rfl, ha⟩ := finF_num hx
  obtain ⟨b, t, n, j, rfl, hb⟩ := finF_num hy
  have ga := place_ge ha
  have gb := place_ge hb
  show (Ieee.double.read a).order (Ieee.double.read b) = _
  rw [ha, hb, vl_num ha, vl_num hb]
  simp only [Datum.order]
  have e1 : (i + 1074).toNat = (i - min i j).toNat + (min i j + 1074).toNat := by omega
  have e2 : (j + 1074).toNat = (j - min i j).toNat + (min i j + 1074).toNat := by omega
  rw [e1, e2, signed_scale, signed_scale, compare_scale]
theorem fmm_vl {x y : Fl} (hx : finF x = true) (hy : finF y = true) : finF (fmm true x y) = true /\ vl (fmm true x y) = max (vl x) (vl y) /\ (fmm true x y = x \/ fmm true x y = y) := by
  have ho := ford_vl hx hy
  obtain ⟨a, s, m, i, rfl, ha⟩ := finF_num hx
  obtain ⟨b, t, n, j, rfl, hb⟩ := finF_num hy
  have ho' : Ieee.double.order a b = some (compare (vl (some a)) (vl (some b))) := ho
  have e : fmm true (some a) (some b) = (match Ieee.double.order a b with
    | none => none
    | some .lt => some (cond true b a)
    | some .gt => some (cond true a b)
    | some .eq => some (cond (Ieee.double.read a).neg (cond true b a) (cond true a b))) := rfl
  rw [e, ho']
  cases hc : compare (vl (some a)) (vl (some b)) with
  | lt =>
    have := Int.compare_eq_lt.1 hc
    exact ⟨hy, by show vl (some b) = _; omega, .inr rfl⟩
  | gt =>
    have := Int.compare_eq_gt.1 hc
    exact ⟨hx, by show vl (some a) = _; omega, .inl rfl⟩
  | eq =>
    have := Int.compare_eq_eq.1 hc
    show finF (some (cond _ b a)) = true /\ vl (some (cond _ b a)) = _ /\ (some (cond _ b a) = some a \/ some (cond _ b a) = some b)
    cases (Ieee.double.read a).neg
    · exact ⟨hx, by show vl (some a) = _; omega, .inl rfl⟩
    · exact ⟨hy, by show vl (some b) = _; omega, .inr rfl⟩
theorem fmm_FW {x y : Fl} (hx : finF x = true) (hy : finF y = true) (hwx : FW x) (hwy : FW y) : FW (fmm true x y) := by
  rcases (fmm_vl hx hy).2.2 with h | h <;> rw [h]
  · exact hwx
  · exact hwy
theorem absF_fin {x : Fl} (hx : finF x = true) (hw : FW x) : finF (absF x) = true := by
  obtain ⟨b, s, m, i, rfl, h⟩ := finF_num hx
  obtain ⟨c, hc, -, hr⟩ := absF_num (hw b rfl) h
  rw [hc]; exact finF_of hr
end Go.Proofs.YtccocdgimamdhaaGreatDoor
end
