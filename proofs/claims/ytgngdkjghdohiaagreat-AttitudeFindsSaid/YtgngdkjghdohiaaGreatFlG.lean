/-
  FLOATS: how far what is written lies from what was meant, in units of the least place.
  Conditions: none.
-/
import Derived.Test.YtgngdkjghdohiaaGreatFlA
import Derived.Test.YtgngdkjghdohiaaGreatL1
section
namespace Go.Proofs.YtgngdkjghdohiaaGreat
open Go Go.Mach Ieee
set_option linter.unusedVariables false

def rung (r : Nat) : Nat := if r < 4503599627370496 then r else (4503599627370496 + r % 4503599627370496) * 2 ^ (r / 4503599627370496 - 1)
theorem read_rung (s : Bool) {r : Nat} (h : r < 9218868437227405312) : ∃ m i, Ieee.double.read (Ieee.double.word s r) = .number s m i /\ -1074 <= i /\ m * 2 ^ (i + 1074).toNat = rung r := by
  have hw : Ieee.double.word s r % 9223372036854775808 = r := by
    unfold Format.word; rw [signWeight_d]; cases s <;> simp <;> omega
  have hs : (Ieee.double.word s r / 9223372036854775808 % 2 == 1) = s := by
    unfold Format.word; rw [signWeight_d]
    cases s
    · simp; omega
    · have : (9223372036854775808 + r) / 9223372036854775808 = 1 := by omega
      simp [this]
  unfold Format.read rung
  simp only [signWeight_d, binade_d, infRung_d, leastPlace_d, hw, hs]
  split
  · refine ⟨_, _, rfl, by omega, ?_⟩
    show r * 2 ^ 0 = r
    omega
  · refine ⟨_, _, rfl, by omega, ?_⟩
    congr 2
    omega
theorem rung_kept (p kept : Nat) (h1 : kept <= 9007199254740992) (h2 : p = 0 \/ 4503599627370496 <= kept) : rung (p * 4503599627370496 + kept) = kept * 2 ^ p := by
  unfold rung
  by_cases hp : p = 0
  · subst hp
    rw [Nat.zero_mul, Nat.zero_add, Nat.pow_zero, Nat.mul_one]
    split
    · rfl
    · by_cases hk : kept = 9007199254740992
      · subst hk; decide
      · have e1 : kept / 4503599627370496 = 1 := by omega
        rw [e1, Nat.sub_self, Nat.pow_zero]; omega
  · have hk := h2.resolve_left hp
    rw [if_neg (by omega)]
    by_cases he : kept = 9007199254740992
    · subst he
      have e1 : (p * 4503599627370496 + 9007199254740992) % 4503599627370496 = 0 := by omega
      have e2 : (p * 4503599627370496 + 9007199254740992) / 4503599627370496 - 1 = p + 1 := by omega
      generalize (p * 4503599627370496 + 9007199254740992) % 4503599627370496 = a at e1 ⊢
      generalize (p * 4503599627370496 + 9007199254740992) / 4503599627370496 - 1 = b at e2 ⊢
      have e3 : 2 ^ b = 2 ^ p * 2 := by rw [e2, Nat.pow_succ]
      subst e1
      rw [e3]
      generalize 2 ^ p = y
      omega
    · have e1 : (p * 4503599627370496 + kept) % 4503599627370496 = kept - 4503599627370496 := by omega
      have e2 : (p * 4503599627370496 + kept) / 4503599627370496 - 1 = p := by omega
      rw [e2]
      exact congrArg (fun z => z * 2 ^ p) (by rw [e1]; omega)
theorem cut_near (s : Bool) (n d : Nat) (hd : 1 <= d) : 2 * (Toward.even.cut s n d * 2 ^ d) <= 2 * n + 2 ^ d /\ 2 * n <= 2 * (Toward.even.cut s n d * 2 ^ d) + 2 ^ d := by
  unfold Toward.cut
  dsimp only
  have h2 : n < 2 ^ (n.log2 + 1) := Nat.lt_log2_self
  have hg : ∀ g low rest : Nat, 0 < g -> n = g * low + rest -> rest < g -> ∀ b : Bool, (b = true -> g <= 2 * rest) -> (b = false -> 2 * rest <= g) -> 2 * ((low + b.toNat) * g) <= 2 * n + g /\ 2 * n <= 2 * ((low + b.toNat) * g) + g := by
    intro g low rest hg hn hr b h1 h2
    have e : (low + b.toNat) * g = g * low + b.toNat * g := by rw [Nat.add_mul, Nat.mul_comm low g]
    rw [e]
    cases b
    · have := h2 rfl
      simp only [Bool.toNat_false, Nat.zero_mul]; omega
    · have := h1 rfl
      simp only [Bool.toNat_true, Nat.one_mul]; omega
  by_cases h : d <= n.log2 + 2
  · rw [Nat.min_eq_left h, Nat.shiftLeft_eq, Nat.one_mul]
    refine hg (2 ^ d) _ _ (Nat.two_pow_pos d) (Nat.div_add_mod n (2 ^ d)).symm (Nat.mod_lt _ (Nat.two_pow_pos d)) _ (fun hb => ?_) (fun hb => ?_)
    · simp only [Bool.or_eq_true, decide_eq_true_eq, Bool.and_eq_true, beq_iff_eq] at hb
      rcases hb with h | h <;> omega
    · simp only [Bool.or_eq_false_iff, decide_eq_false_iff_not] at hb
      omega
  · rw [Nat.min_eq_right (by omega), Nat.shiftLeft_eq, Nat.one_mul]
    have hlt : n < 2 ^ (n.log2 + 2) := Nat.lt_trans h2 (Nat.pow_lt_pow_right (by decide) (by omega))
    have e1 : n / 2 ^ (n.log2 + 2) = 0 := Nat.div_eq_of_lt hlt
    have e2 : n % 2 ^ (n.log2 + 2) = n := Nat.mod_eq_of_lt hlt
    have e3 : 2 ^ (n.log2 + 2) = 2 * 2 ^ (n.log2 + 1) := by rw [Nat.pow_succ]; omega
    rw [e1, e2]
    have hb : (decide (2 ^ (n.log2 + 2) < 2 * n) || (2 ^ (n.log2 + 2) == 2 * n && 0 % 2 == 1)) = false := by
      simp only [Bool.or_eq_false_iff, decide_eq_false_iff_not, Bool.and_eq_false_iff]
      exact ⟨by omega, .inr rfl⟩
    rw [hb]
    simp only [Bool.toNat_false, Nat.add_zero, Nat.zero_mul, Nat.mul_zero, Nat.zero_add]
    have : 2 ^ (n.log2 + 2) <= 2 ^ d := Nat.pow_le_pow_right (by decide) (by omega)
    omega
theorem nearest_val (s : Bool) {m : Nat} (h0 : m ≠ 0) {i : Int} (hb : i + m.log2 <= 1000) : ∃ m' i' V, Ieee.double.read (Ieee.double.nearest s m i) = .number s m' i' /\ m' * 2 ^ (i' + 1074).toNat = V /\
    ∀ E : Nat, 1074 <= E -> 0 <= i + E -> 9007199254740992 * (V * 2 ^ (E - 1074)) <= 9007199254740992 * (m * 2 ^ (i + E).toNat) + (m * 2 ^ (i + E).toNat + if -1074 <= i then 0 else 4503599627370496 * 2 ^ (E - 1074)) /\
      9007199254740992 * (m * 2 ^ (i + E).toNat) <= 9007199254740992 * (V * 2 ^ (E - 1074)) + (m * 2 ^ (i + E).toNat + if -1074 <= i then 0 else 4503599627370496 * 2 ^ (E - 1074)) := by
  unfold Format.nearest
  rw [if_neg h0, leastPlace_d, binade_d, infRung_d]
  have hf : Ieee.double.fractionBits = 52 := rfl
  rw [hf]
  generalize hL : max (i + (m.log2 : Int) - ((52 : Nat) : Int)) (-1074) = L
  have hL1 : -1074 <= L := by omega
  have hlg := Nat.log2_self_le h0
  have hlg2 : m < 2 ^ (m.log2 + 1) := Nat.lt_log2_self
  have key : ∃ kept, Toward.even.cut s (m <<< (i - L).toNat) (L - i).toNat = kept /\ kept <= 9007199254740992 /\ ((L + 1074).toNat = 0 \/ 4503599627370496 <= kept) /\
      ∀ E : Nat, 1074 <= E -> 0 <= i + E -> 9007199254740992 * (kept * 2 ^ (L + 1074).toNat * 2 ^ (E - 1074)) <= 9007199254740992 * (m * 2 ^ (i + E).toNat) + (m * 2 ^ (i + E).toNat + if -1074 <= i then 0 else 4503599627370496 * 2 ^ (E - 1074)) /\
        9007199254740992 * (m * 2 ^ (i + E).toNat) <= 9007199254740992 * (kept * 2 ^ (L + 1074).toNat * 2 ^ (E - 1074)) + (m * 2 ^ (i + E).toNat + if -1074 <= i then 0 else 4503599627370496 * 2 ^ (E - 1074)) := by
    refine ⟨_, rfl, ?_, ?_, ?_⟩
    · have h1 : m <<< (i - L).toNat ≠ 0 := by
        rw [Nat.shiftLeft_eq]
        exact Nat.mul_ne_zero h0 (Nat.pos_iff_ne_zero.1 (Nat.two_pow_pos _))
      refine Nat.le_trans (cut_le s _ _ h1) ?_
      have h2 : (m <<< (i - L).toNat).log2 + 1 - (L - i).toNat <= 53 := by
        rw [log2_shl h0]; omega
      exact Nat.le_trans (Nat.pow_le_pow_right (by decide) h2) (by decide)
    · by_cases hz : (L + 1074).toNat = 0
      · exact .inl hz
      · right
        have hL2 : L = i + (m.log2 : Int) - 52 := by omega
        by_cases hl : 52 <= m.log2
        · have e1 : (i - L).toNat = 0 := by omega
          have e2 : (L - i).toNat = m.log2 - 52 := by omega
          rw [e1, e2, Nat.shiftLeft_zero]
          refine Nat.le_trans ?_ (cut_ge s m (m.log2 - 52) (by omega))
          rw [Nat.shiftLeft_eq, Nat.one_mul, Nat.le_div_iff_mul_le (Nat.two_pow_pos _)]
          have : 4503599627370496 * 2 ^ (m.log2 - 52) = 2 ^ m.log2 := by
            rw [show (4503599627370496 : Nat) = 2 ^ 52 by decide, <- Nat.pow_add, show 52 + (m.log2 - 52) = m.log2 by omega]
          omega
        · have e1 : (i - L).toNat = 52 - m.log2 := by omega
          have e2 : (L - i).toNat = 0 := by omega
          rw [e1, e2]
          refine Nat.le_trans ?_ (cut_ge s _ 0 (by omega))
          rw [Nat.shiftLeft_eq, Nat.shiftLeft_zero, Nat.div_one]
          have : 4503599627370496 = 2 ^ m.log2 * 2 ^ (52 - m.log2) := by
            rw [<- Nat.pow_add, show m.log2 + (52 - m.log2) = 52 by omega]
          rw [this]
          exact Nat.mul_le_mul_right _ hlg
    · intro E hE hiE
      by_cases hLi : L <= i
      · have e1 : (L - i).toNat = 0 := by omega
        rw [e1, cut_zero, Nat.shiftLeft_eq, Nat.mul_assoc, Nat.mul_assoc, <- Nat.pow_add, <- Nat.pow_add, show (i - L).toNat + ((L + 1074).toNat + (E - 1074)) = (i + E).toNat by omega]
        exact ⟨Nat.le_add_right _ _, Nat.le_add_right _ _⟩
      · have e1 : (i - L).toNat = 0 := by omega
        rw [e1, Nat.shiftLeft_zero]
        obtain ⟨c1, c2⟩ := cut_near s m (L - i).toNat (by omega)
        generalize Toward.even.cut s m (L - i).toNat = kept at c1 c2
        have e2 : kept * 2 ^ (L + 1074).toNat * 2 ^ (E - 1074) = kept * 2 ^ (L - i).toNat * 2 ^ (i + E).toNat := by
          have ee : (L + 1074).toNat + (E - 1074) = (L - i).toNat + (i + E).toNat := by omega
          rw [Nat.mul_assoc, Nat.mul_assoc, <- Nat.pow_add, <- Nat.pow_add, ee]
        rw [e2]
        have e3 : 4503599627370496 * (2 ^ (L - i).toNat * 2 ^ (i + E).toNat) <= m * 2 ^ (i + E).toNat + if -1074 <= i then 0 else 4503599627370496 * 2 ^ (E - 1074) := by
          rw [<- Nat.pow_add]
          by_cases hz : L = -1074
          · rw [if_neg (by omega), show (L - i).toNat + (i + E).toNat = E - 1074 by omega]
            exact Nat.le_add_left _ _
          · have : 4503599627370496 * 2 ^ ((L - i).toNat + (i + E).toNat) = 2 ^ m.log2 * 2 ^ (i + E).toNat := by
              have ee : 52 + ((L - i).toNat + (i + E).toNat) = m.log2 + (i + E).toNat := by omega
              rw [show (4503599627370496 : Nat) = 2 ^ 52 by decide, <- Nat.pow_add, <- Nat.pow_add, ee]
            rw [this]
            exact Nat.le_trans (Nat.mul_le_mul_right _ hlg) (Nat.le_add_right _ _)
        generalize 2 ^ (i + E).toNat = P at e3 ⊢
        generalize (if -1074 <= i then 0 else 4503599627370496 * 2 ^ (E - 1074)) = z at e3 ⊢
        generalize kept * 2 ^ (L - i).toNat = K at c1 c2 ⊢
        generalize 2 ^ (L - i).toNat = D at c1 c2 e3
        have c3 : 2 * (K * P) <= 2 * (m * P) + D * P := by
          have := Nat.mul_le_mul_right P c1
          rwa [Nat.add_mul, Nat.mul_assoc, Nat.mul_assoc] at this
        have c4 : 2 * (m * P) <= 2 * (K * P) + D * P := by
          have := Nat.mul_le_mul_right P c2
          rwa [Nat.add_mul, Nat.mul_assoc, Nat.mul_assoc] at this
        generalize K * P = x at c3 c4 ⊢
        generalize D * P = y at c3 c4 e3
        generalize m * P = w at c3 c4 e3 ⊢
        omega
  obtain ⟨kept, hk, k1, k2, k3⟩ := key
  simp only [hk]
  have hr : (L - -1074).toNat * 4503599627370496 + kept < 9218868437227405312 := by omega
  rw [Nat.min_eq_left (by omega)]
  obtain ⟨m', i', h1, h2, h3⟩ := read_rung s hr
  refine ⟨m', i', kept * 2 ^ (L + 1074).toNat, h1, ?_, k3⟩
  rw [h3, show (L - -1074).toNat = (L + 1074).toNat by omega]
  exact rung_kept _ _ k1 k2
end Go.Proofs.YtgngdkjghdohiaaGreat
end
section
namespace Go.Proofs.YtgngdkjghdohiaaGreat
open Go Go.Mach Ieee
set_option linter.unusedVariables false

theorem pow_addR (a b : Nat) : (2 : Rat) ^ (a + b) = 2 ^ a * 2 ^ b := by
  induction b with
  | zero => rw [Nat.add_zero, Rat.pow_zero, Rat.mul_one]
  | succ n ih => rw [<- Nat.add_assoc, Rat.pow_succ, Rat.pow_succ, ih, Rat.mul_assoc]
def Bd (d e : Rat) : Prop := -e <= d /\ d <= e
abbrev uu : Rat := 1 / 9007199254740992
theorem alg1 {B x U P : Rat} (h : P * U = 1) (h2 : 0 <= (B - x * U) * P) : x <= B * P := by
  have : x * U * P = x := by rw [Rat.mul_assoc, Rat.mul_comm U P, h, Rat.mul_one]
  grind
theorem alg2 {v x w A : Rat} (g1 : 0 <= 9007199254740992 * x + (x + 9007199254740992 * w) - 9007199254740992 * v) (g2 : 0 <= 9007199254740992 * v + (x + 9007199254740992 * w) - 9007199254740992 * x) (a : x <= A) : Bd (v - x) (uu * A + w) /\ Bd (-v - -x) (uu * A + w) := by
  unfold Bd; grind
theorem alg3 {V P z X U v : Rat} (h : 9007199254740992 * (V * P) <= 9007199254740992 * X + (X + z)) (hU : 0 <= U) (e : V * P * U = v) : 0 <= 9007199254740992 * (X * U) + (X * U + z * U) - 9007199254740992 * v := by
  have := Rat.mul_nonneg (by grind : (0 : Rat) <= 9007199254740992 * X + (X + z) - 9007199254740992 * (V * P)) hU
  rw [<- e]; grind
theorem alg4 {V P z X U v : Rat} (h : 9007199254740992 * X <= 9007199254740992 * (V * P) + (X + z)) (hU : 0 <= U) (e : V * P * U = v) : 0 <= 9007199254740992 * v + (X * U + z * U) - 9007199254740992 * (X * U) := by
  have := Rat.mul_nonneg (by grind : (0 : Rat) <= 9007199254740992 * (V * P) + (X + z) - 9007199254740992 * X) hU
  rw [<- e]; grind
theorem alg5 {P U S e : Rat} (h : P * U = 1) (h2 : e * 2 = S) : 4503599627370496 * P * (S * U) = 9007199254740992 * e := by
  have : P * (S * U) = S * (P * U) := by grind
  grind
theorem alg6 {x A : Rat} (h : Bd (-x) A) : x <= A := by
  have := h.1; grind
theorem cast1 (V F : Nat) : ((9007199254740992 * (V * 2 ^ F) : Nat) : Rat) = (9007199254740992 : Rat) * ((V : Rat) * 2 ^ F) := by
  rw [Rat.natCast_mul, Rat.natCast_mul, Rat.natCast_pow]; rfl
theorem cast2 (X z : Nat) : ((9007199254740992 * X + (X + z) : Nat) : Rat) = (9007199254740992 : Rat) * X + (X + z) := by
  rw [Rat.natCast_add, Rat.natCast_add, Rat.natCast_mul]; rfl
theorem cast3 (X : Nat) : ((9007199254740992 * X : Nat) : Rat) = (9007199254740992 : Rat) * X := by
  rw [Rat.natCast_mul]; rfl
theorem cast4 (Y X z : Nat) : ((9007199254740992 * Y + (X + z) : Nat) : Rat) = ((9007199254740992 * Y : Nat) : Rat) + (X + z) := by
  rw [Rat.natCast_add, Rat.natCast_add]
theorem cast5 (F : Nat) : ((4503599627370496 * 2 ^ F : Nat) : Rat) = (4503599627370496 : Rat) * 2 ^ F := by
  rw [Rat.natCast_mul, Rat.natCast_pow]; rfl
@[irreducible] def Ue (E : Nat) : Rat := 1 / 2 ^ E
theorem two_pos (E : Nat) : (0 : Rat) < 2 ^ E := by
  induction E with
  | zero => decide
  | succ n ih => rw [Rat.pow_succ]; exact Rat.mul_pos ih (by decide)
theorem Ue_mul (E : Nat) : (2 : Rat) ^ E * Ue E = 1 := by
  unfold Ue
  have := two_pos E
  grind
theorem Ue_pos (E : Nat) : 0 < Ue E := by
  have h1 := Ue_mul E
  have h2 := two_pos E
  rcases (Rat.le_total : Ue E <= 0 \/ 0 <= Ue E) with h | h
  · have := Rat.mul_nonneg (by grind : 0 <= -(Ue E)) (by grind : (0 : Rat) <= 2 ^ E)
    grind
  · by_cases h0 : Ue E = 0
    · rw [h0, Rat.mul_zero] at h1; exact absurd h1 (by decide)
    · exact Rat.lt_of_le_of_ne h (fun e => h0 e.symm)
theorem Ue_add (a b : Nat) : Ue (a + b) = Ue a * Ue b := by
  have h1 := Ue_mul a
  have h2 := Ue_mul b
  have h3 := Ue_mul (a + b)
  have h4 : (2 : Rat) ^ (a + b) = 2 ^ a * 2 ^ b := by grind
  have h5 : (2 : Rat) ^ (a + b) * (Ue a * Ue b) = 1 := by rw [h4]; grind
  have h6 : (2 : Rat) ^ (a + b) ≠ 0 := by have := two_pos (a + b); grind
  grind
theorem Ue_le {a b : Nat} (h : a <= b) : Ue b <= Ue a := by
  obtain ⟨c, rfl⟩ : ∃ c, b = a + c := ⟨b - a, by omega⟩
  rw [Ue_add]
  have h1 := Ue_pos a
  have h2 := Ue_mul c
  have h3 : (1 : Rat) <= 2 ^ c := by
    clear h2
    induction c with
    | zero => decide
    | succ n ih => rw [Rat.pow_succ]; have := ih (by omega); grind
  have h4 := Ue_pos c
  have h5 := Rat.mul_nonneg (by grind : (0 : Rat) <= 2 ^ c - 1) (by grind : 0 <= Ue c)
  have h6 := Rat.mul_nonneg (by grind : (0 : Rat) <= Ue a) (by grind : 0 <= 1 - Ue c)
  grind
@[irreducible] def Sp : Nat := 1074
theorem Sp_eq : Sp = 1074 := by unfold Sp; rfl
def rv (x : Fl) : Rat := (vl x : Rat) * Ue Sp
def eta : Rat := Ue (Sp + 1)
theorem eta_pos : 0 < eta := Ue_pos _
@[irreducible] def Bg : Rat := 2 ^ 900
theorem signed_cast (s : Bool) (m k : Nat) : ((signed s m k : Int) : Rat) = if s = true then -((m * 2 ^ k : Nat) : Rat) else ((m * 2 ^ k : Nat) : Rat) := by
  unfold signed
  rw [Nat.shiftLeft_eq]
  cases s
  · simp only [Bool.false_eq_true, if_false, Rat.intCast_natCast]
  · simp only [if_true, Rat.intCast_neg, Rat.intCast_natCast]
theorem not_great {s : Bool} {m : Nat} {i : Int} (hm : m ≠ 0) {E : Nat} (hi : 0 <= i + E) (h : Bd (((signed s m (i + E).toNat : Int) : Rat) * Ue E) Bg) : i + m.log2 <= 900 := by
  have h0 : ((m * 2 ^ (i + E).toNat : Nat) : Rat) * Ue E <= Bg := by
    rw [signed_cast] at h
    obtain ⟨h1, h2⟩ := h
    cases s
    · simpa using h2
    · rw [if_pos rfl, Rat.neg_mul] at h1 h2
      exact alg6 ⟨h1, h2⟩
  have h1 : ((m * 2 ^ (i + E).toNat : Nat) : Rat) <= 2 ^ (900 + E) := by
    have e1 := Ue_mul E
    have e2 := two_pos E
    have e3 := Rat.mul_nonneg ((Rat.le_iff_sub_nonneg _ _).1 h0) (Rat.le_of_lt e2)
    have e4 : (2 : Rat) ^ (900 + E) = Bg * 2 ^ E := by rw [pow_addR]; unfold Bg; rfl
    rw [e4]
    exact alg1 e1 e3
  have h2 : m * 2 ^ (i + E).toNat <= 2 ^ (900 + E) := by
    have e : ((2 ^ (900 + E) : Nat) : Rat) = 2 ^ (900 + E) := by rw [Rat.natCast_pow]; rfl
    rw [<- e] at h1
    exact Rat.natCast_le_natCast.1 h1
  have h3 : 2 ^ (m.log2 + (i + E).toNat) <= 2 ^ (900 + E) := by
    rw [Nat.pow_add]
    exact Nat.le_trans (Nat.mul_le_mul_right _ (Nat.log2_self_le hm)) h2
  have h4 := (Nat.pow_le_pow_iff_right (by decide : 1 < 2)).1 h3
  omega
theorem near_rat (s : Bool) {m : Nat} (hm : m ≠ 0) {i : Int} (hb : i + m.log2 <= 1000) {E : Nat} (hE : 1074 <= E) (hi : 0 <= i + E) :
    finF (some (Ieee.double.nearest s m i)) = true /\ ∀ A, Bd (((signed s m (i + E).toNat : Int) : Rat) * Ue E) A -> Bd (rv (some (Ieee.double.nearest s m i)) - ((signed s m (i + E).toNat : Int) : Rat) * Ue E) (uu * A + if -1074 <= i then 0 else eta) := by
  obtain ⟨m', i', V, h1, h2, h3⟩ := nearest_val s hm hb
  refine ⟨finF_of h1, fun A hA => ?_⟩
  obtain ⟨g1, g2⟩ := h3 E hE hi
  unfold rv
  rw [vl_num h1, signed_cast, h2]
  rw [signed_cast] at hA ⊢
  generalize m * 2 ^ (i + E).toNat = X at *
  have c1 := Rat.natCast_le_natCast.2 g1
  have c2 := Rat.natCast_le_natCast.2 g2
  have eE : E = 1074 + (E - 1074) := by omega
  have u1 := Ue_mul (E - 1074)
  have u2 : Ue E = Ue Sp * Ue (E - 1074) := by rw [Sp_eq, <- Ue_add, <- eE]
  have u3 := Ue_pos E
  have u4 : eta * 2 = Ue Sp := by
    unfold eta
    rw [Ue_add, Rat.mul_assoc, Rat.mul_comm (Ue 1)]
    have : (2 : Rat) * Ue 1 = 1 := Ue_mul 1
    rw [this, Rat.mul_one]
  have u5 := Ue_pos Sp
  generalize E - 1074 = F at *
  generalize hz : (if -1074 <= i then 0 else 4503599627370496 * 2 ^ F : Nat) = z at *
  have hzr : (z : Rat) * Ue E = 9007199254740992 * (if -1074 <= i then 0 else eta) := by
    rw [<- hz]
    by_cases hc : -1074 <= i
    · rw [if_pos hc, if_pos hc, Rat.mul_zero]; exact Rat.zero_mul _
    · rw [if_neg hc, if_neg hc, u2, cast5]
      exact alg5 u1 u4
  generalize (if -1074 <= i then (0 : Rat) else eta) = w at *
  rw [cast1, cast2] at c1
  rw [cast3, cast4, cast1] at c2
  have ev : (V : Rat) * 2 ^ F * Ue E = V * Ue Sp := by
    rw [u2, Rat.mul_comm (Ue Sp), <- Rat.mul_assoc, Rat.mul_assoc (V : Rat), u1, Rat.mul_one]
  have f1 := alg3 c1 (Rat.le_of_lt u3) ev
  have f2 := alg4 c2 (Rat.le_of_lt u3) ev
  rw [hzr] at f1 f2
  cases s
  · rw [if_neg (by decide)] at hA ⊢
    rw [if_neg (by decide)]
    exact (alg2 f1 f2 hA.2).1
  · rw [if_pos rfl] at hA ⊢
    rw [if_pos rfl, Rat.neg_mul, Rat.neg_mul]
    rw [Rat.neg_mul] at hA
    exact (alg2 f1 f2 (alg6 hA)).2
end Go.Proofs.YtgngdkjghdohiaaGreat
end
section
namespace Go.Proofs.YtgngdkjghdohiaaGreat
open Go Go.Mach Ieee
set_option linter.unusedVariables false

theorem rv_num {b : Nat} {s : Bool} {m : Nat} {i : Int} (h : Ieee.double.read b = .number s m i) : rv (some b) = ((signed s m (i + 1074).toNat : Int) : Rat) * Ue Sp := by unfold rv; rw [vl_num h]
theorem rv_word0 (s : Bool) : finF (some (Ieee.double.word s 0)) = true /\ rv (some (Ieee.double.word s 0)) = 0 := by
  have h := read_word0 s
  exact ⟨finF_of h, by rw [rv_num h, signed_zero]; exact Rat.zero_mul _⟩
theorem Bd.nonneg {d e : Rat} (h : Bd d e) : 0 <= e := by obtain ⟨h1, h2⟩ := h; grind
theorem Bd_zero {e : Rat} (h : 0 <= e) : Bd (0 - 0) e := by unfold Bd; grind
theorem sgn_ne (s : Bool) {m k E : Nat} (hm : m ≠ 0) : ((signed s m k : Int) : Rat) * Ue E ≠ 0 := by
  have h1 : (0 : Rat) < ((m * 2 ^ k : Nat) : Rat) := by
    have : ((0 : Nat) : Rat) < ((m * 2 ^ k : Nat) : Rat) := Rat.natCast_lt_natCast.2 (Nat.mul_pos (Nat.pos_of_ne_zero hm) (Nat.two_pow_pos k))
    exact this
  have h2 := Rat.mul_pos h1 (Ue_pos E)
  rw [signed_cast]
  cases s
  · rw [if_neg (by decide)]; intro h; rw [h] at h2; exact absurd h2 (by decide)
  · rw [if_pos rfl, Rat.neg_mul]; intro h
    have : ((m * 2 ^ k : Nat) : Rat) * Ue E = 0 := by generalize ((m * 2 ^ k : Nat) : Rat) * Ue E = q at h; grind
    rw [this] at h2; exact absurd h2 (by decide)
theorem mul_near {x y : Fl} (hx : finF x = true) (hy : finF y = true) (hb : Bd (rv x * rv y) Bg) : finF (fmul x y) = true /\ (rv x * rv y = 0 -> rv (fmul x y) = 0) /\ ∀ A, Bd (rv x * rv y) A -> Bd (rv (fmul x y) - rv x * rv y) (uu * A + eta) := by
  obtain ⟨c, s, m, i, rfl, rc⟩ := finF_num hx
  obtain ⟨d, t, n, j, rfl, rd⟩ := finF_num hy
  have gi := place_ge rc
  have gj := place_ge rd
  have e0 : fmul (some c) (some d) = some (Ieee.double.nearest (s ^^ t) (m * n) (i + j)) := by
    show ((Ieee.double.read c).product (Ieee.double.read d)).map Ieee.double.write = _
    rw [rc, rd]; rfl
  have ex : ((signed (s ^^ t) (m * n) (i + j + ((1074 + 1074 : Nat) : Int)).toNat : Int) : Rat) * Ue (1074 + 1074) = rv (some c) * rv (some d) := by
    rw [show (i + j + ((1074 + 1074 : Nat) : Int)).toNat = (i + 1074).toNat + (j + 1074).toNat by omega, signed_mul, Rat.intCast_mul, Ue_add, rv_num rc, rv_num rd, Sp_eq]
    generalize ((signed s m (i + 1074).toNat : Int) : Rat) = p
    generalize ((signed t n (j + 1074).toNat : Int) : Rat) = q
    generalize Ue 1074 = r
    grind
  rw [e0]
  by_cases h0 : m * n = 0
  · rw [h0, nearest_zero]
    obtain ⟨w1, w2⟩ := rv_word0 (s ^^ t)
    have e1 : rv (some c) * rv (some d) = 0 := by rw [<- ex, h0, signed_zero]; exact Rat.zero_mul _
    refine ⟨w1, fun _ => w2, fun A hA => ?_⟩
    rw [w2, e1]
    refine Bd_zero ?_
    have := hA.nonneg
    have := eta_pos
    grind
  · rw [<- ex] at hb
    have hg := not_great h0 (by omega) hb
    obtain ⟨n1, n2⟩ := near_rat (s ^^ t) h0 (i := i + j) (by omega) (E := 1074 + 1074) (by omega) (by omega)
    refine ⟨n1, fun hz => absurd (ex.trans hz) (sgn_ne _ h0), fun A hA => ?_⟩
    rw [<- ex] at hA ⊢
    have h3 := n2 A hA
    have h4 : (if -1074 <= i + j then (0 : Rat) else eta) <= eta := by
      have := eta_pos
      split <;> grind
    generalize (if -1074 <= i + j then (0 : Rat) else eta) = w at h3 h4
    obtain ⟨a1, a2⟩ := h3
    exact ⟨by grind, by grind⟩
theorem sum_near {s t : Bool} {m n : Nat} {i j : Int} (hi : -1074 <= i) (hj : -1074 <= j) {X : Rat} (hX : X = ((signed s m (i + 1074).toNat + signed t n (j + 1074).toNat : Int) : Rat) * Ue Sp) (hb : Bd X Bg) :
    ∃ w, ((Datum.number s m i).sum (.number t n j)).map Ieee.double.write = some w /\ finF (some w) = true /\ ∀ A, Bd X A -> Bd (rv (some w) - X) (uu * A) := by
  obtain ⟨sg, e, hsg⟩ := sum_num s t m n i j
  refine ⟨_, e, ?_⟩
  generalize hT : signed s m (i - min i j).toNat + signed t n (j - min i j).toNat = T at hsg
  have hE : T * 2 ^ (min i j + ((1074 : Nat) : Int)).toNat = signed s m (i + 1074).toNat + signed t n (j + 1074).toNat := by
    rw [<- hT, Int.add_mul, <- signed_add, <- signed_add]
    have e1 : (i - min i j).toNat + (min i j + ((1074 : Nat) : Int)).toNat = (i + 1074).toNat := by omega
    have e2 : (j - min i j).toNat + (min i j + ((1074 : Nat) : Int)).toNat = (j + 1074).toNat := by omega
    rw [e1, e2]
  have hs : signed sg T.natAbs (min i j + ((1074 : Nat) : Int)).toNat = signed s m (i + 1074).toNat + signed t n (j + 1074).toNat := by
    rw [<- hE]
    generalize (min i j + ((1074 : Nat) : Int)).toNat = q
    by_cases h0 : T = 0
    · subst h0; rw [Int.natAbs_zero, signed_zero, Int.zero_mul]
    · rw [hsg h0]
      unfold signed
      rw [Nat.shiftLeft_eq]
      have ec : ((T.natAbs * 2 ^ q : Nat) : Int) = (T.natAbs : Int) * 2 ^ q := by rw [Int.natCast_mul, Int.natCast_pow]; rfl
      rw [ec]
      by_cases hl : T < 0
      · rw [decide_eq_true hl, if_pos rfl, show ((T.natAbs : Nat) : Int) = -T by omega, Int.neg_mul, Int.neg_neg]
      · rw [decide_eq_false hl, if_neg (by decide), show ((T.natAbs : Nat) : Int) = T by omega]
  have ex : ((signed sg T.natAbs (min i j + ((1074 : Nat) : Int)).toNat : Int) : Rat) * Ue 1074 = X := by rw [hs, hX, Sp_eq]
  by_cases h0 : T.natAbs = 0
  · rw [h0, nearest_zero]
    obtain ⟨w1, w2⟩ := rv_word0 sg
    have e1 : X = 0 := by rw [<- ex, h0, signed_zero]; exact Rat.zero_mul _
    refine ⟨w1, fun A hA => ?_⟩
    rw [w2, e1]
    refine Bd_zero ?_
    have := hA.nonneg
    grind
  · rw [<- ex] at hb
    have hg := not_great h0 (by omega) hb
    obtain ⟨n1, n2⟩ := near_rat sg h0 (i := min i j) (by omega) (E := 1074) (by omega) (by omega)
    refine ⟨n1, fun A hA => ?_⟩
    rw [<- ex] at hA ⊢
    have h3 := n2 A hA
    rw [if_pos (by omega)] at h3
    obtain ⟨a1, a2⟩ := h3
    exact ⟨by grind, by grind⟩
theorem add_near {x y : Fl} (hx : finF x = true) (hy : finF y = true) (hb : Bd (rv x + rv y) Bg) : finF (fadd x y) = true /\ ∀ A, Bd (rv x + rv y) A -> Bd (rv (fadd x y) - (rv x + rv y)) (uu * A) := by
  obtain ⟨c, s, m, i, rfl, rc⟩ := finF_num hx
  obtain ⟨d, t, n, j, rfl, rd⟩ := finF_num hy
  have hX : rv (some c) + rv (some d) = ((signed s m (i + 1074).toNat + signed t n (j + 1074).toNat : Int) : Rat) * Ue Sp := by
    rw [rv_num rc, rv_num rd, Rat.intCast_add, Rat.add_mul]
  obtain ⟨w, h1, h2, h3⟩ := sum_near (place_ge rc) (place_ge rd) hX hb
  have e0 : fadd (some c) (some d) = some w := by
    show ((Ieee.double.read c).sum (Ieee.double.read d)).map Ieee.double.write = _
    rw [rc, rd]; exact h1
  rw [e0]
  exact ⟨h2, h3⟩
theorem sub_near {x y : Fl} (hx : finF x = true) (hy : finF y = true) (hb : Bd (rv x - rv y) Bg) : finF (fsub x y) = true /\ ∀ A, Bd (rv x - rv y) A -> Bd (rv (fsub x y) - (rv x - rv y)) (uu * A) := by
  obtain ⟨c, s, m, i, rfl, rc⟩ := finF_num hx
  obtain ⟨d, t, n, j, rfl, rd⟩ := finF_num hy
  have hX : rv (some c) - rv (some d) = ((signed s m (i + 1074).toNat + signed (!t) n (j + 1074).toNat : Int) : Rat) * Ue Sp := by
    rw [rv_num rc, rv_num rd, signed_not, Rat.intCast_add, Rat.intCast_neg, Rat.add_mul, Rat.neg_mul, <- Rat.sub_eq_add_neg]
  obtain ⟨w, h1, h2, h3⟩ := sum_near (place_ge rc) (place_ge rd) hX hb
  have e0 : fsub (some c) (some d) = some w := by
    show ((Ieee.double.read c).sum (Ieee.double.read d).opposite).map Ieee.double.write = _
    rw [rc, rd]; exact h1
  rw [e0]
  exact ⟨h2, h3⟩
theorem rv_neg {x : Fl} (hw : FW x) (hx : finF x = true) : finF (fneg x) = true /\ rv (fneg x) = -(rv x) := by
  obtain ⟨c, s, m, i, rfl, rc⟩ := finF_num hx
  obtain ⟨h1, h2⟩ := read_neg (hw c rfl) rc
  show finF (some (Op.negFloat .f64 c)) = true /\ rv (some (Op.negFloat .f64 c)) = _
  refine ⟨finF_of h1, ?_⟩
  rw [rv_num h1, rv_num rc, signed_not, Rat.intCast_neg, Rat.neg_mul]
end Go.Proofs.YtgngdkjghdohiaaGreat
end
section
namespace Go.Proofs.YtgngdkjghdohiaaGreat
open Go Go.Mach Ieee
set_option linter.unusedVariables false

theorem alg7 {P ay ax q A h y : Rat} (hay : 0 < ay) (h1 : Bd (P * ay - ax) (P * ay / 18014398509481984)) (hq : q * ay = ax) (hqA : q <= A) (hy : Bd (y - P) (uu * P + h)) (hP : 0 <= P) (hA : 0 <= A) : Bd (y - q) (2 * uu * A + h) := by
  subst hq
  obtain ⟨a1, a2⟩ := h1
  obtain ⟨b1, b2⟩ := hy
  have c1 : P - q <= P / 18014398509481984 := by
    rcases (Rat.le_total : P - q - P / 18014398509481984 <= 0 \/ 0 <= P - q - P / 18014398509481984) with h | h
    · grind
    · by_cases hz : P - q - P / 18014398509481984 = 0
      · grind
      · have := Rat.mul_pos (Rat.lt_of_le_of_ne h (fun e => hz e.symm)) hay
        grind
  have c2 : q - P <= P / 18014398509481984 := by
    rcases (Rat.le_total : q - P - P / 18014398509481984 <= 0 \/ 0 <= q - P - P / 18014398509481984) with h | h
    · grind
    · by_cases hz : q - P - P / 18014398509481984 = 0
      · grind
      · have := Rat.mul_pos (Rat.lt_of_le_of_ne h (fun e => hz e.symm)) hay
        grind
  constructor <;> grind
theorem quo_nat {M n : Nat} (hn : n ≠ 0) : ∃ D, 2 * (M / n) + (M % n != 0).toNat = D /\ D * n <= 2 * M + n /\ 2 * M <= D * n + n := by
  refine ⟨_, rfl, ?_⟩
  have h1 := Nat.div_add_mod M n
  have h2 := Nat.mod_lt M (Nat.pos_of_ne_zero hn)
  generalize M % n = r at *
  generalize M / n = w at *
  by_cases hr : r = 0
  · subst hr
    have : (2 * w + ((0 : Nat) != 0).toNat) * n = 2 * (n * w) := by
      show (2 * w + 0) * n = _
      rw [Nat.add_zero, Nat.mul_assoc, Nat.mul_comm w n]
    rw [this]; omega
  · have hb : (r != 0) = true := by rw [bne_iff_ne]; exact hr
    rw [hb]
    have : (2 * w + (true).toNat) * n = 2 * (n * w) + n := by
      show (2 * w + 1) * n = _
      rw [Nat.add_mul, Nat.one_mul, Nat.mul_assoc, Nat.mul_comm w n]
    rw [this]; omega
theorem quo_ge {M n : Nat} (h : 18014398509481984 * n <= 2 * M) (hn : n ≠ 0) {D : Nat} (h2 : 2 * M <= D * n + n) (h3 : D * n <= 2 * M + n) (hD : 2 * (M / n) + (M % n != 0).toNat = D) : 18014398509481984 <= D := by
  have h4 : 9007199254740992 <= M / n := by
    rw [Nat.le_div_iff_mul_le (Nat.pos_of_ne_zero hn)]; omega
  omega
theorem alg8 {a b c d : Rat} (h : a * b = 1) : c * a * (b * d) = c * d := by
  have : c * a * (b * d) = c * d * (a * b) := by grind
  rw [this, h, Rat.mul_one]
theorem alg9 {X Y n W : Rat} (hW : 0 <= W) (h1 : X <= Y + n) (h2 : Y <= X + n) (hn : n * 18014398509481984 <= X) : Bd (X * W - Y * W) (X * W / 18014398509481984) := by
  have a1 := Rat.mul_nonneg (by grind : 0 <= Y + n - X) hW
  have a2 := Rat.mul_nonneg (by grind : 0 <= X + n - Y) hW
  have a3 := Rat.mul_nonneg (by grind : 0 <= X - n * 18014398509481984) hW
  constructor <;> grind
@[irreducible] def Gq : Nat := 2200
theorem Gq_eq : Gq = 2200 := by unfold Gq; rfl
theorem div_abs {m n : Nat} {i j : Int} (hm : m ≠ 0) (hn : n ≠ 0) (hi : -1074 <= i) (hj : -1074 <= j) (hj2 : j <= 971) (hnb : n < 9007199254740992) (hmb : m < 9007199254740992) :
    ∃ (D : Nat) (p : Int), D ≠ 0 /\ 0 <= p + (Gq : Int) /\ (∀ s t, (Datum.number s m i).quotient 54 (.number t n j) = some (.number (s ^^ t) D p)) /\
      Bd (((D * 2 ^ (p + (Gq : Int)).toNat : Nat) : Rat) * Ue Gq * (((n * 2 ^ (j + 1074).toNat : Nat) : Rat) * Ue Sp) - ((m * 2 ^ (i + 1074).toNat : Nat) : Rat) * Ue Sp) (((D * 2 ^ (p + (Gq : Int)).toNat : Nat) : Rat) * Ue Gq * (((n * 2 ^ (j + 1074).toNat : Nat) : Rat) * Ue Sp) / 18014398509481984) := by
  have hml : m.log2 <= 52 := by have := (Nat.log2_lt hm).2 (by simpa using hmb : m < 2 ^ 53); omega
  have hnl : n.log2 <= 52 := by have := (Nat.log2_lt hn).2 (by simpa using hnb : n < 2 ^ 53); omega
  have hG := Gq_eq
  generalize Gq = G at *
  generalize hmore : 54 + n.log2 - m.log2 = more
  obtain ⟨D, hD, d1, d2⟩ := quo_nat (M := m <<< more) hn
  have hM : 18014398509481984 * n <= 2 * (m <<< more) := by
    have h1 := Nat.log2_self_le hm
    have h2 : n < 2 ^ (n.log2 + 1) := Nat.lt_log2_self
    rw [Nat.shiftLeft_eq]
    have h3 : 2 ^ m.log2 * 2 ^ more = 2 ^ (54 + n.log2) := by rw [<- Nat.pow_add]; congr 1; omega
    have h4 := Nat.mul_le_mul_right (2 ^ more) h1
    rw [h3] at h4
    have h5 : 2 ^ (54 + n.log2) = 9007199254740992 * 2 ^ (n.log2 + 1) := by
      rw [show (9007199254740992 : Nat) = 2 ^ 53 by decide, <- Nat.pow_add]; congr 1; omega
    rw [h5] at h4
    generalize m * 2 ^ more = X at *
    generalize 2 ^ (n.log2 + 1) = Y at *
    omega
  have hge := quo_ge hM hn d2 d1 hD
  refine ⟨D, i - j - more - 1, by omega, by omega, fun s t => ?_, ?_⟩
  · simp only [Datum.quotient, if_neg hn]
    rw [hmore, hD]
  · have hp : 0 <= i - j - more - 1 + (G : Int) := by omega
    generalize hpp : i - j - more - 1 = p at *
    rw [Nat.shiftLeft_eq] at d1 d2
    have ex : (i + 1074).toNat + G = (p + (G : Int)).toNat + (j + 1074).toNat + (more + 1) := by omega
    generalize hw : (p + (G : Int)).toNat + (j + 1074).toNat = w at ex
    have e1 : ((D * 2 ^ (p + (G : Int)).toNat : Nat) : Rat) * Ue G * (((n * 2 ^ (j + 1074).toNat : Nat) : Rat) * Ue Sp) = ((D * n : Nat) : Rat) * (((2 ^ w : Nat) : Rat) * Ue (G + Sp)) := by
      rw [<- hw, Nat.pow_add, Ue_add, Rat.natCast_mul, Rat.natCast_mul, Rat.natCast_mul, Rat.natCast_mul]
      generalize ((2 ^ (p + (G : Int)).toNat : Nat) : Rat) = a
      generalize ((2 ^ (j + 1074).toNat : Nat) : Rat) = b
      generalize Ue G = c
      generalize Ue Sp = d
      grind
    have e2 : ((m * 2 ^ (i + 1074).toNat : Nat) : Rat) * Ue Sp = ((2 * (m * 2 ^ more) : Nat) : Rat) * (((2 ^ w : Nat) : Rat) * Ue (G + Sp)) := by
      have h1 : m * 2 ^ (i + 1074).toNat * 2 ^ G = 2 * (m * 2 ^ more) * 2 ^ w := by
        rw [Nat.mul_assoc, <- Nat.pow_add, ex, Nat.pow_add 2 w, Nat.pow_succ]
        generalize 2 ^ w = a
        generalize 2 ^ more = b
        grind
      have h2 : ((m * 2 ^ (i + 1074).toNat : Nat) : Rat) * ((2 ^ G : Nat) : Rat) = ((2 * (m * 2 ^ more) : Nat) : Rat) * ((2 ^ w : Nat) : Rat) := by
        rw [<- Rat.natCast_mul, <- Rat.natCast_mul, h1]
      have h3 : ((2 ^ G : Nat) : Rat) * Ue G = 1 := by rw [Rat.natCast_pow]; exact Ue_mul G
      rw [Ue_add, <- Rat.mul_assoc, <- h2]
      exact (alg8 h3).symm
    rw [e1, e2]
    have hW : (0 : Rat) <= ((2 ^ w : Nat) : Rat) * Ue (G + Sp) := Rat.mul_nonneg (Rat.natCast_nonneg) (Rat.le_of_lt (Ue_pos _))
    generalize ((2 ^ w : Nat) : Rat) * Ue (G + Sp) = W at *
    refine alg9 hW (n := (n : Rat)) ?_ ?_ ?_
    · rw [<- Rat.natCast_add]; exact Rat.natCast_le_natCast.2 d1
    · rw [<- Rat.natCast_add]; exact Rat.natCast_le_natCast.2 d2
    · have : ((n * 18014398509481984 : Nat) : Rat) = (n : Rat) * 18014398509481984 := by rw [Rat.natCast_mul]; rfl
      rw [<- this]
      refine Rat.natCast_le_natCast.2 ?_
      rw [Nat.mul_comm]; exact Nat.mul_le_mul_right _ hge
theorem alg11 {d P w e : Rat} (h : Bd d (uu * P + w)) (hw : w <= e) : Bd d (uu * P + e) := by
  obtain ⟨h1, h2⟩ := h
  exact ⟨by grind, by grind⟩
theorem alg12 {y P w e : Rat} (h : Bd (y - -P) (uu * P + w)) (hw : w <= e) : Bd (-y - P) (uu * P + e) := by
  obtain ⟨h1, h2⟩ := h
  exact ⟨by grind, by grind⟩
theorem alg13 {y q e : Rat} (h : Bd (-y - q) e) : Bd (y - -q) e := by
  obtain ⟨h1, h2⟩ := h
  exact ⟨by grind, by grind⟩
theorem alg14 {P B : Rat} (h : 0 < P) (hB : P <= B) : Bd P B /\ Bd (-P) B := by
  unfold Bd; grind
theorem div_near {x y : Fl} (hx : finF x = true) (hy : finF y = true) (h0 : rv y ≠ 0) (hb : Bd (rv x / rv y) (Bg / 2)) : finF (fdiv x y) = true /\ (rv x = 0 -> rv (fdiv x y) = 0) /\ ∀ A, Bd (rv x / rv y) A -> Bd (rv (fdiv x y) - rv x / rv y) (2 * uu * A + eta) := by
  obtain ⟨c, s, m, i, rfl, rc⟩ := finF_num hx
  obtain ⟨d, t, n, j, rfl, rd⟩ := finF_num hy
  have gi := place_ge rc
  have gj := place_ge rd
  obtain ⟨hi2, hmb⟩ := place_le rc
  obtain ⟨hj2, hnb⟩ := place_le rd
  have hn : n ≠ 0 := by
    intro hc
    apply h0
    rw [rv_num rd, hc, signed_zero]; exact Rat.zero_mul _
  have e0 : fdiv (some c) (some d) = ((Datum.number s m i).quotient 54 (.number t n j)).map Ieee.double.write := by
    show ((Ieee.double.read c).quotient (Ieee.double.fractionBits + 2) (Ieee.double.read d)).map Ieee.double.write = _
    rw [rc, rd]; rfl
  by_cases hm : m = 0
  · subst hm
    have e1 : fdiv (some c) (some d) = some (Ieee.double.word (s ^^ t) 0) := by
      rw [e0]
      simp only [Datum.quotient, if_neg hn]
      have : (0 : Nat) <<< (54 + n.log2 - (0 : Nat).log2) = 0 := by rw [Nat.shiftLeft_eq, Nat.zero_mul]
      rw [this, Nat.zero_div, Nat.zero_mod]
      show some (Ieee.double.nearest (s ^^ t) 0 _) = _
      rw [nearest_zero]
    obtain ⟨w1, w2⟩ := rv_word0 (s ^^ t)
    have z : rv (some c) = 0 := by rw [rv_num rc, signed_zero]; exact Rat.zero_mul _
    rw [e1]
    refine ⟨w1, fun _ => w2, fun A hA => ?_⟩
    rw [w2, z]
    rw [z] at hA
    have hz : (0 : Rat) / rv (some d) = 0 := by rw [Rat.div_def, Rat.zero_mul]
    rw [hz]
    refine Bd_zero ?_
    have := hA.nonneg
    have := eta_pos
    grind
  · obtain ⟨D, p, hD, hp, hq, hbd⟩ := div_abs hm hn gi gj hj2 hnb hmb
    rw [e0, hq]
    show finF (some (Ieee.double.nearest (s ^^ t) D p)) = true /\ (rv (some c) = 0 -> rv (some (Ieee.double.nearest (s ^^ t) D p)) = 0) /\ ∀ A, Bd (rv (some c) / rv (some d)) A -> Bd (rv (some (Ieee.double.nearest (s ^^ t) D p)) - rv (some c) / rv (some d)) (2 * uu * A + eta)
    have hcx := rv_num rc
    have hcy := rv_num rd
    rw [signed_cast] at hcx hcy
    have hay : 0 < ((n * 2 ^ (j + 1074).toNat : Nat) : Rat) * Ue Sp := Rat.mul_pos (Rat.natCast_pos.2 (Nat.mul_pos (Nat.pos_of_ne_zero hn) (Nat.two_pow_pos _))) (Ue_pos _)
    have hax : 0 < ((m * 2 ^ (i + 1074).toNat : Nat) : Rat) * Ue Sp := Rat.mul_pos (Rat.natCast_pos.2 (Nat.mul_pos (Nat.pos_of_ne_zero hm) (Nat.two_pow_pos _))) (Ue_pos _)
    have hP : 0 < ((D * 2 ^ (p + (Gq : Int)).toNat : Nat) : Rat) * Ue Gq := Rat.mul_pos (Rat.natCast_pos.2 (Nat.mul_pos (Nat.pos_of_ne_zero hD) (Nat.two_pow_pos _))) (Ue_pos _)
    have hsg := signed_cast (s ^^ t) D (p + (Gq : Int)).toNat
    have hng : Bd (((signed (s ^^ t) D (p + (Gq : Int)).toNat : Int) : Rat) * Ue Gq) Bg -> p + D.log2 <= 900 := not_great hD hp
    have hnr : p + D.log2 <= 900 -> _ := fun h => near_rat (s ^^ t) hD (i := p) (by omega) (E := Gq) (by rw [Gq_eq]; decide) hp
    rw [hsg] at hng hnr
    have hw : (if -1074 <= p then (0 : Rat) else eta) <= eta := by have := eta_pos; split <;> grind
    generalize (if -1074 <= p then (0 : Rat) else eta) = w at hnr hw
    generalize ((n * 2 ^ (j + 1074).toNat : Nat) : Rat) = n1 at *
    generalize ((m * 2 ^ (i + 1074).toNat : Nat) : Rat) = m1 at *
    generalize ((D * 2 ^ (p + (Gq : Int)).toNat : Nat) : Rat) = P1 at *
    have hx2 : rv (some c) = if s = true then -(m1 * Ue Sp) else m1 * Ue Sp := by rw [hcx]; cases s <;> simp [Rat.neg_mul]
    have hy2 : rv (some d) = if t = true then -(n1 * Ue Sp) else n1 * Ue Sp := by rw [hcy]; cases t <;> simp [Rat.neg_mul]
    have hz2 : (if (s ^^ t) = true then -P1 else P1) * Ue Gq = if (s ^^ t) = true then -(P1 * Ue Gq) else P1 * Ue Gq := by cases (s ^^ t) <;> simp [Rat.neg_mul]
    rw [hz2] at hng hnr
    generalize m1 * Ue Sp = ax at *
    generalize n1 * Ue Sp = ay at *
    generalize P1 * Ue Gq = P at *
    generalize some (Ieee.double.nearest (s ^^ t) D p) = V at *
    clear hz2 hcx hcy hsg
    have hq0 : rv (some c) / rv (some d) = if (s ^^ t) = true then -(ax / ay) else ax / ay := by
      rw [hx2, hy2]
      have h0' : ay ≠ 0 := by grind
      cases s <;> cases t
      · rfl
      · show ax / -ay = -(ax / ay)
        grind
      · show -ax / ay = -(ax / ay)
        grind
      · show -ax / -ay = ax / ay
        grind
    rw [hq0] at hb ⊢
    have hqa : ax / ay * ay = ax := by
      have h0' : ay ≠ 0 := by grind
      grind
    have hqp : 0 <= ax / ay := by
      rw [Rat.div_def]
      exact Rat.mul_nonneg (Rat.le_of_lt hax) (Rat.le_of_lt (Rat.inv_pos.2 hay))
    have hx0 : rv (some c) ≠ 0 := by
      rw [hx2]; cases s
      · show ax ≠ 0; grind
      · show -ax ≠ 0; grind
    generalize ax / ay = q at *
    have hqB : q <= Bg / 2 := by
      cases h : (s ^^ t)
      · rw [h] at hb; exact hb.2
      · rw [h] at hb; exact alg6 hb
    have hPq := alg7 (y := P) (h := 0) (A := q) hay hbd hqa Rat.le_refl (by unfold Bd; grind) (Rat.le_of_lt hP) hqp
    have hPB : P <= Bg := by
      have := hPq.2
      have := hqB
      generalize Bg = B at *
      clear hng hnr hb
      grind
    have hlog : p + D.log2 <= 900 := hng (by
      cases (s ^^ t)
      · exact (alg14 hP hPB).1
      · exact (alg14 hP hPB).2)
    obtain ⟨f1, f2⟩ := hnr hlog
    refine ⟨f1, fun h => absurd h hx0, fun A hA => ?_⟩
    have f3 := f2 P (by
      cases (s ^^ t)
      · exact (alg14 hP Rat.le_refl).1
      · exact (alg14 hP Rat.le_refl).2)
    cases h : (s ^^ t)
    · rw [h] at f3 hA
      rw [if_neg (by decide)] at f3 hA ⊢
      exact alg7 hay hbd hqa hA.2 (alg11 f3 hw) (Rat.le_of_lt hP) hA.nonneg
    · rw [h] at f3 hA
      rw [if_pos rfl] at f3 hA ⊢
      exact alg13 (alg7 hay hbd hqa (alg6 hA) (alg12 f3 hw) (Rat.le_of_lt hP) hA.nonneg)
end Go.Proofs.YtgngdkjghdohiaaGreat
end
section
namespace Go.Proofs.YtgngdkjghdohiaaGreat
open Go Go.Mach Ieee
set_option linter.unusedVariables false

theorem rootFrom_spec {n : Nat} : ∀ (todo root : Nat), root * root <= n -> n < (root + 2 ^ todo) * (root + 2 ^ todo) -> Datum.rootFrom n todo root * Datum.rootFrom n todo root <= n /\ n < (Datum.rootFrom n todo root + 1) * (Datum.rootFrom n todo root + 1)
  | 0, root, h1, h2 => ⟨h1, h2⟩
  | todo + 1, root, h1, h2 => by
    unfold Datum.rootFrom
    rw [Nat.shiftLeft_eq, Nat.one_mul]
    dsimp only
    by_cases h : (root + 2 ^ todo) * (root + 2 ^ todo) <= n
    · rw [if_pos h]
      refine rootFrom_spec todo _ h ?_
      have : root + 2 ^ todo + 2 ^ todo = root + 2 ^ (todo + 1) := by rw [Nat.pow_succ]; omega
      rw [this]; exact h2
    · rw [if_neg h]
      exact rootFrom_spec todo _ h1 (by omega)
theorem root_spec (n : Nat) : Datum.rootFrom n (n.log2 / 2 + 1) 0 * Datum.rootFrom n (n.log2 / 2 + 1) 0 <= n /\ n < (Datum.rootFrom n (n.log2 / 2 + 1) 0 + 1) * (Datum.rootFrom n (n.log2 / 2 + 1) 0 + 1) := by
  refine rootFrom_spec _ 0 (by omega) ?_
  rw [Nat.zero_add, <- Nat.pow_add]
  have : n < 2 ^ (n.log2 + 1) := Nat.lt_log2_self
  exact Nat.lt_of_lt_of_le this (Nat.pow_le_pow_right (by decide) (by omega))
theorem root_sticky {n w : Nat} (h1 : w * w <= n) (h2 : n < (w + 1) * (w + 1)) : ∃ D, 2 * w + (w * w != n).toNat = D /\ D * D <= 4 * n + 2 * D /\ 4 * n <= D * D + 2 * D /\ 2 * w <= D /\ D <= 2 * w + 1 := by
  refine ⟨_, rfl, ?_⟩
  have e : (w + 1) * (w + 1) = w * w + 2 * w + 1 := by grind
  rw [e] at h2
  by_cases h : w * w = n
  · have hb : (w * w != n) = false := by rw [h]; exact bne_self_eq_false n
    rw [hb]
    have e2 : (2 * w + false.toNat) * (2 * w + false.toNat) = 4 * (w * w) := by show (2 * w + 0) * (2 * w + 0) = _; grind
    rw [e2]
    refine ⟨by omega, by omega, Nat.le_add_right _ _, by show 2 * w + 0 <= _; omega⟩
  · have hb : (w * w != n) = true := by rw [bne_iff_ne]; exact h
    rw [hb]
    have e2 : (2 * w + true.toNat) * (2 * w + true.toNat) = 4 * (w * w) + 4 * w + 1 := by show (2 * w + 1) * (2 * w + 1) = _; grind
    rw [e2]
    show 4 * (w * w) + 4 * w + 1 <= 4 * n + 2 * (2 * w + 1) /\ 4 * n <= 4 * (w * w) + 4 * w + 1 + 2 * (2 * w + 1) /\ 2 * w <= 2 * w + 1 /\ 2 * w + 1 <= 2 * w + 1
    omega
theorem alg20 {D4 n4 D W : Rat} (hW : 0 <= W) (h1 : D4 <= n4 + D) (h2 : n4 <= D4 + D) (hD : D * 18014398509481984 <= D4) : Bd (D4 * W - n4 * W) (D4 * W / 18014398509481984) := by
  have a1 := Rat.mul_nonneg (by grind : 0 <= n4 + D - D4) hW
  have a2 := Rat.mul_nonneg (by grind : 0 <= D4 + D - n4) hW
  have a3 := Rat.mul_nonneg (by grind : 0 <= D4 - D * 18014398509481984) hW
  constructor <;> grind
theorem alg21 {y P x : Rat} (hP : 0 < P) (h1 : Bd (y - P) (uu * P)) (h2 : Bd (P * P - x) (P * P / 18014398509481984)) : 0 < y /\ Bd (y * y - x) (3 * uu * x) := by
  obtain ⟨a1, a2⟩ := h1
  obtain ⟨b1, b2⟩ := h2
  have hy : 0 < y := by grind
  refine ⟨hy, ?_⟩
  have hPP := Rat.mul_pos hP hP
  have c1 := Rat.mul_nonneg (by grind : 0 <= P + uu * P - y) (by grind : 0 <= y)
  have c2 := Rat.mul_nonneg (by grind : 0 <= P + uu * P - y) (by grind : 0 <= P)
  have c3 := Rat.mul_nonneg (by grind : 0 <= y - P + uu * P) (by grind : 0 <= y)
  have c4 := Rat.mul_nonneg (by grind : 0 <= y - P + uu * P) (by grind : 0 <= P)
  constructor <;> grind
theorem alg22 (f d b u v : Rat) : f * d * b * u * v = f * (d * u) * (b * v) := by grind
theorem sqrt_near {x : Fl} (hx : finF x = true) (h0 : 0 < rv x) : finF (fsqrt x) = true /\ 0 < rv (fsqrt x) /\ Bd (rv (fsqrt x) * rv (fsqrt x) - rv x) (3 * uu * rv x) := by
  obtain ⟨c, s, m, i, rfl, rc⟩ := finF_num hx
  have gi := place_ge rc
  obtain ⟨hi2, hmb⟩ := place_le rc
  have hcx := rv_num rc
  rw [signed_cast] at hcx
  have hm : m ≠ 0 := by
    intro hc
    rw [rv_num rc, hc, signed_zero] at h0
    rw [show (((0 : Int) : Rat)) * Ue Sp = 0 from Rat.zero_mul _] at h0
    exact absurd h0 (by decide)
  have hs : s = false := by
    cases s
    · rfl
    · rw [hcx, if_pos rfl, Rat.neg_mul] at h0
      have := Rat.mul_nonneg (Rat.natCast_nonneg : (0 : Rat) <= ((m * 2 ^ (i + 1074).toNat : Nat) : Rat)) (Rat.le_of_lt (Ue_pos Sp))
      generalize ((m * 2 ^ (i + 1074).toNat : Nat) : Rat) * Ue Sp = q at *
      grind
  subst hs
  rw [if_neg (by decide)] at hcx
  have hml : m.log2 <= 52 := by have := (Nat.log2_lt hm).2 (by simpa using hmb : m < 2 ^ 53); omega
  have e0 : fsqrt (some c) = ((Datum.number false m i).root 54).map Ieee.double.write := by
    show ((Ieee.double.read c).root (Ieee.double.fractionBits + 2)).map Ieee.double.write = _
    rw [rc]; rfl
  rw [e0]
  simp only [Datum.root, if_neg hm, Bool.false_eq_true, if_false]
  generalize hmore : 2 * 54 - m.log2 + ((i - ((2 * 54 - m.log2 : Nat) : Int)) % 2).toNat = more
  have hm1 : 108 <= m.log2 + more /\ more <= 109 := by omega
  obtain ⟨r1, r2⟩ := root_spec (m <<< more)
  generalize Datum.rootFrom (m <<< more) ((m <<< more).log2 / 2 + 1) 0 = w at r1 r2
  obtain ⟨D, hD, d1, d2, d3, d4⟩ := root_sticky r1 r2
  rw [hD, Option.map_some, write_number]
  rw [Nat.shiftLeft_eq] at *
  have hn1 : 324518553658426726783156020576256 <= m * 2 ^ more := by
    have h1 := Nat.mul_le_mul_right (2 ^ more) (Nat.log2_self_le hm)
    rw [<- Nat.pow_add] at h1
    have h2 : 2 ^ 108 <= 2 ^ (m.log2 + more) := Nat.pow_le_pow_right (by decide) hm1.1
    have h3 : (2 : Nat) ^ 108 = 324518553658426726783156020576256 := by decide
    omega
  have hn2 : m * 2 ^ more < 2 ^ 164 := by
    have h1 : m * 2 ^ more < 2 ^ 53 * 2 ^ more := Nat.mul_lt_mul_of_pos_right (by simpa using hmb) (Nat.two_pow_pos _)
    rw [<- Nat.pow_add] at h1
    exact Nat.lt_of_lt_of_le h1 (Nat.pow_le_pow_right (by decide) (by omega))
  have hw1 : 18014398509481984 <= w := by
    rcases Nat.lt_or_ge w 18014398509481984 with h | h
    · have : (w + 1) * (w + 1) <= 18014398509481984 * 18014398509481984 := Nat.mul_le_mul (by omega) (by omega)
      omega
    · exact h
  have hw2 : w < 2 ^ 82 := by
    rcases Nat.lt_or_ge w (2 ^ 82) with h | h
    · exact h
    · have h1 : 2 ^ 82 * 2 ^ 82 <= w * w := Nat.mul_le_mul h h
      rw [<- Nat.pow_add] at h1
      omega
  have hD0 : D ≠ 0 := by omega
  have hDl : D.log2 <= 84 := by
    have h1 : D < 2 ^ 85 := by
      have : (2 : Nat) ^ 85 = 8 * 2 ^ 82 := by rw [<- Nat.pow_add 2 3 82]
      omega
    have := (Nat.log2_lt hD0).2 h1
    omega
  generalize hp : (i - (more : Int)) / 2 - 1 = p
  have hp2 : i = 2 * p + 2 + more := by omega
  obtain ⟨n1, n2⟩ := near_rat false hD0 (i := p) (by omega) (E := Gq) (by rw [Gq_eq]; decide) (by rw [Gq_eq]; omega)
  have hG := Gq_eq
  generalize Gq = G at *
  rw [signed_cast, if_neg (by decide), if_pos (by omega)] at n2
  have hP : 0 < ((D * 2 ^ (p + (G : Int)).toNat : Nat) : Rat) * Ue G := Rat.mul_pos (Rat.natCast_pos.2 (Nat.mul_pos (Nat.pos_of_ne_zero hD0) (Nat.two_pow_pos _))) (Ue_pos _)
  have n3 := n2 _ (alg14 hP Rat.le_refl).1
  rw [Rat.add_zero] at n3
  have hsq : Bd (((D * 2 ^ (p + (G : Int)).toNat : Nat) : Rat) * Ue G * (((D * 2 ^ (p + (G : Int)).toNat : Nat) : Rat) * Ue G) - rv (some c)) (((D * 2 ^ (p + (G : Int)).toNat : Nat) : Rat) * Ue G * (((D * 2 ^ (p + (G : Int)).toNat : Nat) : Rat) * Ue G) / 18014398509481984) := by
    have e1 : ((D * 2 ^ (p + (G : Int)).toNat : Nat) : Rat) * Ue G * (((D * 2 ^ (p + (G : Int)).toNat : Nat) : Rat) * Ue G) = ((D * D : Nat) : Rat) * (((2 ^ ((p + (G : Int)).toNat + (p + (G : Int)).toNat) : Nat) : Rat) * Ue (G + G)) := by
      rw [Nat.pow_add, Ue_add, Rat.natCast_mul, Rat.natCast_mul, Rat.natCast_mul]
      generalize ((2 ^ (p + (G : Int)).toNat : Nat) : Rat) = a
      generalize Ue G = b
      generalize (D : Rat) = d
      grind
    have e2 : rv (some c) = ((4 * (m * 2 ^ more) : Nat) : Rat) * (((2 ^ ((p + (G : Int)).toNat + (p + (G : Int)).toNat) : Nat) : Rat) * Ue (G + G)) := by
      rw [hcx]
      have h1 : m * 2 ^ (i + 1074).toNat * 2 ^ (G + G) = 4 * (m * 2 ^ more) * 2 ^ ((p + (G : Int)).toNat + (p + (G : Int)).toNat) * 2 ^ Sp := by
        have hSp := Sp_eq
        have ex : (i + 1074).toNat + (G + G) = 2 + more + ((p + (G : Int)).toNat + (p + (G : Int)).toNat) + Sp := by omega
        rw [Nat.mul_assoc, <- Nat.pow_add, ex, Nat.pow_add 2 _ Sp, Nat.pow_add 2 (2 + more), Nat.pow_add 2 2]
        generalize 2 ^ ((p + (G : Int)).toNat + (p + (G : Int)).toNat) = a
        generalize 2 ^ more = b
        generalize 2 ^ Sp = d
        have e4 : (2 : Nat) ^ 2 = 4 := rfl
        rw [e4]
        ac_rfl
      generalize ((p + (G : Int)).toNat + (p + (G : Int)).toNat) = q at *
      generalize hXX : m * 2 ^ (i + 1074).toNat = X at *
      have h2 : (X : Rat) * ((2 ^ (G + G) : Nat) : Rat) = ((4 * (m * 2 ^ more) : Nat) : Rat) * ((2 ^ q : Nat) : Rat) * ((2 ^ Sp : Nat) : Rat) := by
        rw [<- Rat.natCast_mul, <- Rat.natCast_mul, <- Rat.natCast_mul, h1]
      have h3 : ((2 ^ (G + G) : Nat) : Rat) * Ue (G + G) = 1 := by rw [Rat.natCast_pow]; exact Ue_mul _
      have h4 : ((2 ^ Sp : Nat) : Rat) * Ue Sp = 1 := by rw [Rat.natCast_pow]; exact Ue_mul _
      generalize ((2 ^ (G + G) : Nat) : Rat) = a at *
      generalize ((2 ^ Sp : Nat) : Rat) = b at *
      generalize ((2 ^ q : Nat) : Rat) = d at *
      generalize ((4 * (m * 2 ^ more) : Nat) : Rat) = f at *
      generalize Ue (G + G) = u at *
      generalize Ue Sp = v at *
      have : (X : Rat) * v = (X : Rat) * a * u * v := by rw [Rat.mul_assoc (X : Rat) a u, h3, Rat.mul_one]
      rw [this, h2]
      rw [alg22, h4, Rat.mul_one]
    rw [e1, e2]
    have hW : (0 : Rat) <= ((2 ^ ((p + (G : Int)).toNat + (p + (G : Int)).toNat) : Nat) : Rat) * Ue (G + G) := Rat.mul_nonneg Rat.natCast_nonneg (Rat.le_of_lt (Ue_pos _))
    generalize ((2 ^ ((p + (G : Int)).toNat + (p + (G : Int)).toNat) : Nat) : Rat) * Ue (G + G) = W at *
    refine alg20 hW (D := ((2 * D : Nat) : Rat)) ?_ ?_ ?_
    · rw [<- Rat.natCast_add]; exact Rat.natCast_le_natCast.2 d1
    · rw [<- Rat.natCast_add]; exact Rat.natCast_le_natCast.2 d2
    · have : ((2 * D * 18014398509481984 : Nat) : Rat) = ((2 * D : Nat) : Rat) * 18014398509481984 := by rw [Rat.natCast_mul]; rfl
      rw [<- this]
      refine Rat.natCast_le_natCast.2 ?_
      have h5 : D * 36028797018963968 <= D * D := Nat.mul_le_mul_left _ (by omega)
      have h6 : ∀ x : Nat, 2 * x * 18014398509481984 = x * 36028797018963968 := fun x => by omega
      rw [h6]; exact h5
  exact ⟨n1, alg21 hP n3 hsq⟩
end Go.Proofs.YtgngdkjghdohiaaGreat
end
section
namespace Go.Proofs.YtgngdkjghdohiaaGreat
open Go Go.Mach Ieee
set_option linter.unusedVariables false

theorem Bd.mul {a b A B : Rat} (h : Bd a A) (g : Bd b B) : Bd (a * b) (A * B) := by
  obtain ⟨h1, h2⟩ := h
  obtain ⟨h3, h4⟩ := g
  have h5 := Rat.mul_nonneg (by grind : 0 <= A - a) (by grind : 0 <= B + b)
  have h6 := Rat.mul_nonneg (by grind : 0 <= A + a) (by grind : 0 <= B - b)
  have h7 := Rat.mul_nonneg (by grind : 0 <= A - a) (by grind : 0 <= B - b)
  have h8 := Rat.mul_nonneg (by grind : 0 <= A + a) (by grind : 0 <= B + b)
  constructor <;> grind
theorem Bd.add {a b A B : Rat} (h : Bd a A) (g : Bd b B) : Bd (a + b) (A + B) := by
  obtain ⟨h1, h2⟩ := h
  obtain ⟨h3, h4⟩ := g
  constructor <;> grind
theorem Bd.sub {a b A B : Rat} (h : Bd a A) (g : Bd b B) : Bd (a - b) (A + B) := by
  obtain ⟨h1, h2⟩ := h
  obtain ⟨h3, h4⟩ := g
  constructor <;> grind
theorem Bd.mono {a A B : Rat} (h : Bd a A) (g : A <= B) : Bd a B := by
  obtain ⟨h1, h2⟩ := h
  constructor <;> grind
theorem Bd.neg {a A : Rat} (h : Bd a A) : Bd (-a) A := by
  obtain ⟨h1, h2⟩ := h
  constructor <;> grind
def Ap (x : Fl) (a e : Rat) : Prop := finF x = true /\ Bd (rv x - a) e
theorem Ap.self {x : Fl} (h : finF x = true) : Ap x (rv x) 0 := ⟨h, by unfold Bd; grind⟩
theorem Ap.mono {x : Fl} {a e f : Rat} (h : Ap x a e) (g : e <= f) : Ap x a f := ⟨h.1, h.2.mono g⟩
theorem Ap.bd {x : Fl} {a e A : Rat} (h : Ap x a e) (g : Bd a A) : Bd (rv x) (A + e) := by
  obtain ⟨-, h1, h2⟩ := h
  obtain ⟨h3, h4⟩ := g
  constructor <;> grind
theorem alg30 {p x y a b e f A B E : Rat} (hx : Bd (x - a) e) (hy : Bd (y - b) f) (ha : Bd a A) (hb : Bd b B) (hp : Bd (p - x * y) E) : Bd (p - a * b) (A * f + B * e + e * f + E) := by
  have h1 := ha.mul hy
  have h2 := hx.mul hb
  have h3 := hx.mul hy
  obtain ⟨a1, a2⟩ := h1
  obtain ⟨b1, b2⟩ := h2
  obtain ⟨c1, c2⟩ := h3
  obtain ⟨d1, d2⟩ := hp
  constructor <;> grind
theorem Ap.mul {x y : Fl} {a b e f A B h : Rat} (hx : Ap x a e) (hy : Ap y b f) (ha : Bd a A) (hb : Bd b B) (hbig : (A + e) * (B + f) <= Bg) (hh : 0 <= h) (hz : (A + e) * (B + f) = 0 \/ eta <= h) :
    Ap (fmul x y) (a * b) (A * f + B * e + e * f + (uu * ((A + e) * (B + f)) + h)) := by
  have g1 := (hx.bd ha).mul (hy.bd hb)
  obtain ⟨m1, m2, m3⟩ := mul_near hx.1 hy.1 (g1.mono hbig)
  refine ⟨m1, alg30 hx.2 hy.2 ha hb ?_⟩
  rcases hz with hz | hz
  · rw [hz] at g1 ⊢
    have h0 : rv x * rv y = 0 := by obtain ⟨c1, c2⟩ := g1; grind
    rw [m2 h0, h0]
    refine Bd_zero ?_
    grind
  · have := m3 _ g1
    refine this.mono ?_
    grind
theorem alg31 {p x y a b e f E : Rat} (hx : Bd (x - a) e) (hy : Bd (y - b) f) (hp : Bd (p - (x + y)) E) : Bd (p - (a + b)) (e + f + E) := by
  obtain ⟨a1, a2⟩ := hx
  obtain ⟨b1, b2⟩ := hy
  obtain ⟨d1, d2⟩ := hp
  constructor <;> grind
theorem alg32 {p x y a b e f E : Rat} (hx : Bd (x - a) e) (hy : Bd (y - b) f) (hp : Bd (p - (x - y)) E) : Bd (p - (a - b)) (e + f + E) := by
  obtain ⟨a1, a2⟩ := hx
  obtain ⟨b1, b2⟩ := hy
  obtain ⟨d1, d2⟩ := hp
  constructor <;> grind
theorem Ap.add {x y : Fl} {a b e f C : Rat} (hx : Ap x a e) (hy : Ap y b f) (hc : Bd (a + b) C) (hbig : C + e + f <= Bg) : Ap (fadd x y) (a + b) (e + f + uu * (C + e + f)) := by
  have g1 : Bd (rv x + rv y) (C + e + f) := by
    obtain ⟨-, a1, a2⟩ := hx
    obtain ⟨-, b1, b2⟩ := hy
    obtain ⟨c1, c2⟩ := hc
    constructor <;> grind
  obtain ⟨m1, m2⟩ := add_near hx.1 hy.1 (g1.mono hbig)
  exact ⟨m1, alg31 hx.2 hy.2 (m2 _ g1)⟩
theorem Ap.sub {x y : Fl} {a b e f C : Rat} (hx : Ap x a e) (hy : Ap y b f) (hc : Bd (a - b) C) (hbig : C + e + f <= Bg) : Ap (fsub x y) (a - b) (e + f + uu * (C + e + f)) := by
  have g1 : Bd (rv x - rv y) (C + e + f) := by
    obtain ⟨-, a1, a2⟩ := hx
    obtain ⟨-, b1, b2⟩ := hy
    obtain ⟨c1, c2⟩ := hc
    constructor <;> grind
  obtain ⟨m1, m2⟩ := sub_near hx.1 hy.1 (g1.mono hbig)
  exact ⟨m1, alg32 hx.2 hy.2 (m2 _ g1)⟩
@[irreducible] def tS : Rat := Ue 400
@[irreducible] def tG : Rat := 2 ^ 400
theorem tS_pos : 0 < tS := by unfold tS; exact Ue_pos _
theorem eta_small : eta * 1267650600228229401496703205376 <= tS * uu := by
  unfold eta tS
  rw [Sp_eq]
  have h1 : Ue (1074 + 1) <= Ue (400 + (100 + 53)) := Ue_le (by decide)
  have h2 := Ue_mul 100
  have h3 := Ue_mul 53
  have h4 : (2 : Rat) ^ 100 = 1267650600228229401496703205376 := by decide +kernel
  have h5 : (2 : Rat) ^ 53 = 9007199254740992 := by decide +kernel
  rw [Ue_add 400, Ue_add 100 53] at h1
  rw [h4] at h2
  rw [h5] at h3
  generalize Ue (1074 + 1) = e at *
  generalize Ue 400 = t at *
  generalize Ue 100 = x at *
  generalize Ue 53 = y at *
  have hy : y = uu := by grind
  have : t * (x * y) * 1267650600228229401496703205376 = t * y := by
    have : t * (x * y) * 1267650600228229401496703205376 = t * y * (1267650600228229401496703205376 * x) := by grind
    rw [this, h2, Rat.mul_one]
  rw [<- hy, <- this]
  generalize t * (x * y) = q at *
  grind
theorem one_le_pow (n : Nat) : (1 : Rat) <= 2 ^ n := by
  have : ((1 : Nat) : Rat) <= ((2 ^ n : Nat) : Rat) := Rat.natCast_le_natCast.2 (Nat.one_le_two_pow)
  rwa [Rat.natCast_pow] at this
theorem big_ok {c : Rat} (h : c <= 1267650600228229401496703205376) : c * tG <= Bg := by
  unfold tG Bg
  have h1 := two_pos 400
  have h2 : (2 : Rat) ^ 900 = 2 ^ 400 * (2 ^ 400 * 2 ^ 100) := by rw [<- pow_addR, <- pow_addR]
  have h4 : (2 : Rat) ^ 100 = 1267650600228229401496703205376 := by decide +kernel
  have h5 : (1 : Rat) <= 2 ^ 400 := one_le_pow 400
  rw [h2, h4]
  generalize (2 : Rat) ^ 400 = g at *
  have a1 := Rat.mul_nonneg (by grind : 0 <= 1267650600228229401496703205376 - c) (by grind : 0 <= g)
  have a2 := Rat.mul_nonneg (by grind : 0 <= g) (by grind : 0 <= g - 1)
  grind
end Go.Proofs.YtgngdkjghdohiaaGreat
end
section
namespace Go.Proofs.YtgngdkjghdohiaaGreat
open Go Go.Mach Ieee
set_option linter.unusedVariables false

abbrev kap : Rat := 1001 / 1000
def Room (M : Rat) : Prop := 0 <= M /\ (M = 0 \/ eta <= uu * M / 1000) /\ M * 1000 <= Bg
theorem prod_near {b s : Fl} {β S A e M E : Rat} (hR : Room M) (hb : Ap b β 0) (hβ : Bd β kap) (hs : Ap s S e) (hS : Bd S A) (hA : A <= 20 * M) (he0 : 0 <= e) (he : e <= M) (hE : kap * e + (uu * (kap * (A + e)) + uu * M / 1000) <= E) : Ap (fmul b s) (β * S) E := by
  obtain ⟨h0, h1, h2⟩ := hR
  have hA0 := hS.nonneg
  have hbig : (kap + 0) * (A + e) <= Bg := by grind
  have hh : 0 <= uu * M / 1000 := by grind
  have hz : (kap + 0) * (A + e) = 0 \/ eta <= uu * M / 1000 := by
    rcases h1 with h | h
    · left
      have a0 : A = 0 := by grind
      have e0 : e = 0 := by grind
      rw [a0, e0]; grind
    · right; exact h
  refine (Ap.mul hb hs hβ hS hbig hh hz).mono ?_
  grind
theorem crs_near {b c s t : Fl} {β γ S T A e M E : Rat} (hR : Room M) (hb : Ap b β 0) (hβ : Bd β kap) (hc : Ap c γ 0) (hγ : Bd γ kap) (hs : Ap s S e) (hS : Bd S A) (ht : Ap t T e) (hT : Bd T A) (hA : A <= 20 * M) (he0 : 0 <= e) (he : e <= M)
    (hE : 2 * (kap * e + (uu * (kap * (A + e)) + uu * M / 1000)) + uu * (2 * kap * A + 2 * (kap * e + (uu * (kap * (A + e)) + uu * M / 1000))) <= E) : Ap (fsub (fmul b s) (fmul c t)) (β * S - γ * T) E /\ Bd (β * S - γ * T) (2 * kap * A) := by
  have p1 := prod_near hR hb hβ hs hS hA he0 he Rat.le_refl
  have p2 := prod_near hR hc hγ ht hT hA he0 he Rat.le_refl
  have hA0 := hS.nonneg
  obtain ⟨h0, h1, h2⟩ := hR
  have hbd : Bd (β * S - γ * T) (2 * kap * A) := ((hβ.mul hS).sub (hγ.mul hT)).mono (by grind)
  refine ⟨(Ap.sub p1 p2 hbd ?_).mono ?_, hbd⟩
  · grind
  · grind
theorem two_Ap : Ap (some 4611686018427387904) 2 0 := by
  have h : Ieee.double.read 4611686018427387904 = .number false 4503599627370496 (-51) := by decide
  refine ⟨finF_of h, ?_⟩
  rw [rv_num h, signed_cast, if_neg (by decide)]
  generalize hA : ((-51 : Int) + 1074).toNat = a
  have hS : Sp = a + 51 := by rw [Sp_eq, <- hA]; decide
  rw [hS, Rat.natCast_mul, Rat.natCast_pow, Ue_add]
  have h1 : ((2 : Nat) : Rat) ^ a * (Ue a * Ue 51) = Ue 51 := by
    have h3 : ((2 : Nat) : Rat) ^ a * Ue a = 1 := Ue_mul a
    rw [<- Rat.mul_assoc, h3, Rat.one_mul]
  rw [Rat.mul_assoc, h1]
  have h4 := Ue_mul 51
  have h5 : (2 : Rat) ^ 51 = 2251799813685248 := by decide +kernel
  rw [h5] at h4
  have h6 : ((4503599627370496 : Nat) : Rat) = 2 * 2251799813685248 := by decide +kernel
  rw [h6, Rat.mul_assoc, h4]
  unfold Bd; grind
theorem dbl_near {s : Fl} {S A e M E : Rat} (hR : Room M) (hs : Ap s S e) (hS : Bd S A) (hA : A <= 20 * M) (he0 : 0 <= e) (he : e <= M) (hE : 2 * e + (uu * ((A + e) * 2) + uu * M / 1000) <= E) : Ap (fmul s (some 4611686018427387904)) (S * 2) E /\ Bd (S * 2) (A * 2) := by
  obtain ⟨h0, h1, h2⟩ := hR
  have hA0 := hS.nonneg
  have h22 : Bd (2 : Rat) 2 := by unfold Bd; grind
  have hbig : (A + e) * (2 + 0) <= Bg := by grind
  have hh : 0 <= uu * M / 1000 := by grind
  have hz : (A + e) * (2 + 0) = 0 \/ eta <= uu * M / 1000 := by
    rcases h1 with h | h
    · left
      have a0 : A = 0 := by grind
      have e0 : e = 0 := by grind
      rw [a0, e0]; grind
    · right; exact h
  refine ⟨(Ap.mul hs two_Ap hS h22 hbig hh hz).mono ?_, hS.mul h22⟩
  grind
theorem turn1_near {w y z p C0 C1 C2 : Fl} {M c0 c1 c2 : Rat} (hR : Room M) (hw : finF w = true) (hw1 : Bd (rv w) kap) (hy : finF y = true) (hy1 : Bd (rv y) kap) (hz : finF z = true) (hz1 : Bd (rv z) kap) (hp : finF p = true) (hp1 : Bd (rv p) M)
    (h0 : Ap C0 c0 (401 / 100 * uu * M)) (h1 : Ap C1 c1 (401 / 100 * uu * M)) (h2 : Ap C2 c2 (401 / 100 * uu * M)) (b0 : Bd c0 (2 * kap * M)) (b1 : Bd c1 (2 * kap * M)) (b2 : Bd c2 (2 * kap * M)) :
    Ap (fadd (fadd p (fmul w (fmul C0 (some 4611686018427387904)))) (fsub (fmul y (fmul C2 (some 4611686018427387904))) (fmul z (fmul C1 (some 4611686018427387904))))) (rv p + rv w * (c0 * 2) + (rv y * (c2 * 2) - rv z * (c1 * 2))) (75 * uu * M) := by
  have hM := hR.1
  have hB := hR.2.2
  obtain ⟨d0, e0⟩ := dbl_near (E := 1203 / 100 * uu * M) hR h0 b0 (by grind) (by grind) (by grind) (by grind)
  obtain ⟨d1, e1⟩ := dbl_near (E := 1203 / 100 * uu * M) hR h1 b1 (by grind) (by grind) (by grind) (by grind)
  obtain ⟨d2, e2⟩ := dbl_near (E := 1203 / 100 * uu * M) hR h2 b2 (by grind) (by grind) (by grind) (by grind)
  obtain ⟨u1, u2⟩ := crs_near (E := 4015 / 100 * uu * M) hR (Ap.self hy) hy1 (Ap.self hz) hz1 d2 e2 d1 e1 (by grind) (by grind) (by grind) (by grind)
  have t1 := prod_near (E := 1607 / 100 * uu * M) hR (Ap.self hw) hw1 d0 e0 (by grind) (by grind) (by grind) (by grind)
  have t2 := hw1.mul e0
  have s1 := Ap.add (Ap.self hp) t1 (hp1.add t2) (by grind)
  have s2 := Ap.add s1 u1 ((hp1.add t2).add u2) (by grind)
  exact s2.mono (by grind)
theorem turn_near {w x y z p q r : Fl} {M : Rat} (hR : Room M) (hw : finF w = true) (hw1 : Bd (rv w) kap) (hx : finF x = true) (hx1 : Bd (rv x) kap) (hy : finF y = true) (hy1 : Bd (rv y) kap) (hz : finF z = true) (hz1 : Bd (rv z) kap)
    (hp : finF p = true) (hp1 : Bd (rv p) M) (hq : finF q = true) (hq1 : Bd (rv q) M) (hr : finF r = true) (hr1 : Bd (rv r) M) :
    (Ap (fsub (fmul y r) (fmul z q)) (rv y * rv r - rv z * rv q) (401 / 100 * uu * M) /\ Bd (rv y * rv r - rv z * rv q) (2 * kap * M)) /\
    (Ap (fsub (fmul z p) (fmul x r)) (rv z * rv p - rv x * rv r) (401 / 100 * uu * M) /\ Bd (rv z * rv p - rv x * rv r) (2 * kap * M)) /\
    (Ap (fsub (fmul x q) (fmul y p)) (rv x * rv q - rv y * rv p) (401 / 100 * uu * M) /\ Bd (rv x * rv q - rv y * rv p) (2 * kap * M)) := by
  have hM := hR.1
  exact ⟨crs_near hR (Ap.self hy) hy1 (Ap.self hz) hz1 (Ap.self hr) hr1 (Ap.self hq) hq1 (by grind) (by grind) (by grind) (by grind),
    crs_near hR (Ap.self hz) hz1 (Ap.self hx) hx1 (Ap.self hp) hp1 (Ap.self hr) hr1 (by grind) (by grind) (by grind) (by grind),
    crs_near hR (Ap.self hx) hx1 (Ap.self hy) hy1 (Ap.self hq) hq1 (Ap.self hp) hp1 (by grind) (by grind) (by grind) (by grind)⟩

end Go.Proofs.YtgngdkjghdohiaaGreat
end
section
namespace Go.Proofs.YtgngdkjghdohiaaGreat
open Go Go.Mach Ieee
set_option linter.unusedVariables false

theorem sq_nonneg (a : Rat) : 0 <= a * a := by
  rcases (Rat.le_total : a <= 0 \/ 0 <= a) with h | h
  · have := Rat.mul_nonneg (by grind : 0 <= -a) (by grind : 0 <= -a); grind
  · exact Rat.mul_nonneg h h
theorem Bd.sq {d D : Rat} (h : Bd d D) : d * d <= D * D := (h.mul h).2
theorem three_max (a b c : Rat) : ∃ M, 0 <= M /\ Bd a M /\ Bd b M /\ Bd c M /\ M * M <= a * a + b * b + c * c /\ (M = a \/ M = -a \/ M = b \/ M = -b \/ M = c \/ M = -c) := by
  have sa := sq_nonneg a
  have sb := sq_nonneg b
  have sc := sq_nonneg c
  have ab : ∀ x : Rat, ∃ y, 0 <= y /\ Bd x y /\ y * y = x * x /\ (y = x \/ y = -x) := by
    intro x
    rcases (Rat.le_total : x <= 0 \/ 0 <= x) with h | h
    · exact ⟨-x, by grind, by unfold Bd; grind, by grind, .inr rfl⟩
    · exact ⟨x, h, by unfold Bd; grind, rfl, .inl rfl⟩
  obtain ⟨x, x0, x1, x2, x3⟩ := ab a
  obtain ⟨y, y0, y1, y2, y3⟩ := ab b
  obtain ⟨z, z0, z1, z2, z3⟩ := ab c
  rcases (Rat.le_total : x <= y \/ y <= x) with h1 | h1 <;> rcases (Rat.le_total : y <= z \/ z <= y) with h2 | h2 <;> rcases (Rat.le_total : x <= z \/ z <= x) with h3 | h3
  all_goals first
    | exact ⟨x, x0, x1, y1.mono (by grind), z1.mono (by grind), by grind, by grind⟩
    | exact ⟨y, y0, x1.mono (by grind), y1, z1.mono (by grind), by grind, by grind⟩
    | exact ⟨z, z0, x1.mono (by grind), y1.mono (by grind), z1, by grind, by grind⟩
end Go.Proofs.YtgngdkjghdohiaaGreat
end
section
namespace Go.Proofs.YtgngdkjghdohiaaGreat
open Go Go.Mach Ieee
set_option linter.unusedVariables false

theorem fle_vl {x y : Fl} (hx : finF x = true) (hy : finF y = true) : fle x y = decide (vl x <= vl y) := by
  unfold fle
  rw [ford_vl hx hy, Bool.eq_iff_iff, decide_eq_true_iff, Bool.or_eq_true, beq_iff_eq, beq_iff_eq, Option.some.injEq, Option.some.injEq, Int.compare_eq_eq, Int.compare_eq_lt]
  omega
theorem rv_le {x y : Fl} : vl x <= vl y ↔ rv x <= rv y := by
  unfold rv
  have h := Ue_pos Sp
  constructor
  · intro g
    have g2 := Rat.intCast_le_intCast.2 g
    have := Rat.mul_nonneg ((Rat.le_iff_sub_nonneg _ _).1 g2) (Rat.le_of_lt h)
    generalize ((vl x : Int) : Rat) = a at *
    generalize ((vl y : Int) : Rat) = b at *
    generalize Ue Sp = u at *
    grind
  · intro g
    rcases (by omega : vl y < vl x \/ vl x <= vl y) with k | k
    · have g2 := Rat.intCast_lt_intCast.2 k
      have := Rat.mul_pos ((Rat.lt_iff_sub_pos _ _).1 g2) h
      generalize ((vl x : Int) : Rat) = a at *
      generalize ((vl y : Int) : Rat) = b at *
      generalize Ue Sp = u at *
      grind
    · exact k
theorem rv_eq {x y : Fl} : vl x = vl y ↔ rv x = rv y := by
  have h1 := @rv_le x y
  have h2 := @rv_le y x
  constructor
  · intro h; exact Rat.le_antisymm (h1.1 (by omega)) (h2.1 (by omega))
  · intro h
    have := h1.2 (by rw [h]; exact Rat.le_refl)
    have := h2.2 (by rw [h]; exact Rat.le_refl)
    omega
theorem rv_zero : finF (some 0) = true /\ rv (some 0) = 0 := rv_word0 false
theorem fge_rv {x y : Fl} (hx : finF x = true) (hy : finF y = true) : fge x y = true ↔ rv y <= rv x := by rw [fge_vl hx hy, decide_eq_true_iff, rv_le]
theorem fle_rv {x y : Fl} (hx : finF x = true) (hy : finF y = true) : fle x y = true ↔ rv x <= rv y := by rw [fle_vl hx hy, decide_eq_true_iff, rv_le]
theorem feq_rv {x y : Fl} (hx : finF x = true) (hy : finF y = true) : feq x y = true ↔ rv x = rv y := by rw [feq_vl hx hy, decide_eq_true_iff, rv_eq]
theorem rv_pow {b : Nat} {i : Int} (h : Ieee.double.read b = .number false 4503599627370496 i) {n : Nat} (hi : (i + 1074).toNat + 52 + n = 1074 ) : finF (some b) = true /\ rv (some b) = Ue n := by
  refine ⟨finF_of h, ?_⟩
  rw [rv_num h, signed_cast, if_neg (by decide), Rat.natCast_mul, Rat.natCast_pow]
  generalize (i + 1074).toNat = a at *
  have hS : Sp = (a + 52) + n := by rw [Sp_eq]; omega
  rw [hS, Ue_add, Ue_add]
  have h1 : ((2 : Nat) : Rat) ^ a * Ue a = 1 := Ue_mul a
  have h2 : (2 : Rat) ^ 52 * Ue 52 = 1 := Ue_mul 52
  have h3 : ((4503599627370496 : Nat) : Rat) = (2 : Rat) ^ 52 := by decide +kernel
  rw [h3]
  generalize ((2 : Nat) : Rat) ^ a = p at *
  generalize (2 : Rat) ^ 52 = q at *
  generalize Ue a = r at *
  generalize Ue 52 = s at *
  have : q * p * (r * s * Ue n) = (p * r) * (q * s) * Ue n := by grind
  rw [this, h1, h2, Rat.one_mul, Rat.one_mul]
theorem rv_powG {b : Nat} {i : Int} (h : Ieee.double.read b = .number false 4503599627370496 i) {n : Nat} (hi : (i + 1074).toNat + 52 = n + 1074) : finF (some b) = true /\ rv (some b) = 2 ^ n := by
  refine ⟨finF_of h, ?_⟩
  rw [rv_num h, signed_cast, if_neg (by decide), Rat.natCast_mul, Rat.natCast_pow]
  have h3 : ((4503599627370496 : Nat) : Rat) = (2 : Rat) ^ 52 := by decide +kernel
  rw [h3]
  generalize (i + 1074).toNat = a at *
  rw [<- Sp_eq] at hi
  have h5 : (2 : Rat) ^ 52 * ((2 : Nat) : Rat) ^ a = 2 ^ (n + Sp) := by
    rw [<- hi, Nat.add_comm, pow_addR]; rfl
  rw [h5, pow_addR, Rat.mul_assoc, Ue_mul, Rat.mul_one]
abbrev cS : Fl := some 2805742567851819008
theorem num_between {x y z : Fl} (hy : finF y = true) (hz : finF z = true) (h1 : fge x y = true) (h2 : fle x z = true) : finF x = true := by
  obtain ⟨b, s, m, i, rfl, hb⟩ := finF_num hy
  obtain ⟨c, t, n, j, rfl, hc⟩ := finF_num hz
  cases x with
  | none => exact absurd h1 Bool.false_ne_true
  | some a =>
    have f1 : ford (some a) (some b) = (Ieee.double.read a).order (.number s m i) := by show (Ieee.double.read a).order (Ieee.double.read b) = _; rw [hb]
    have f2 : ford (some a) (some c) = (Ieee.double.read a).order (.number t n j) := by show (Ieee.double.read a).order (Ieee.double.read c) = _; rw [hc]
    unfold fge at h1
    unfold fle at h2
    rw [f1] at h1
    rw [f2] at h2
    cases hr : Ieee.double.read a with
    | number s' m' i' => exact finF_of hr
    | nan s' f => rw [hr] at h1; exact absurd h1 (by simp [Datum.order])
    | infinity s' =>
      rw [hr] at h1 h2
      cases s'
      · exact absurd h2 (by simp [Datum.order])
      · exact absurd h1 (by simp [Datum.order])
theorem feq_fin {x : Fl} (h : feq x (some 0) = true) : finF x = true := by
  cases x with
  | none => exact absurd h (by decide)
  | some a =>
    have f1 : ford (some a) (some 0) = (Ieee.double.read a).order (.number false 0 (-1074)) := by show (Ieee.double.read a).order (Ieee.double.read 0) = _; rw [read_zero]
    unfold feq at h
    rw [f1] at h
    cases hr : Ieee.double.read a with
    | number s' m' i' => exact finF_of hr
    | nan s' f => rw [hr] at h; exact absurd h (by simp [Datum.order])
    | infinity s' =>
      rw [hr] at h
      cases s'
      · exact absurd h (by simp [Datum.order])
      · exact absurd h (by simp [Datum.order])
theorem absF_back {x : Fl} (h : finF (absF x) = true) : finF x = true := by
  cases x with
  | none => exact absurd h (by decide)
  | some b =>
    have h' : finF (canon (b % 9223372036854775808)) = true := h
    unfold canon at h'
    cases hn : isNaN (b % 9223372036854775808) with
    | true => rw [hn] at h'; exact absurd h' Bool.false_ne_true
    | false =>
      rw [hn, cond_false, finF_iff] at h'
      rw [finF_iff]
      have := of_decide_eq_true h'
      exact decide_eq_true (by omega)
theorem rv_abs {x : Fl} (hx : finF x = true) (hw : FW x) : rv (absF x) = rv x \/ rv (absF x) = -(rv x) := by
  obtain ⟨b, s, m, i, rfl, h⟩ := finF_num hx
  unfold rv
  rw [vl_abs hx hw rfl h, vl_num h, signed_cast, Rat.intCast_natCast]
  cases s
  · left; rfl
  · right
    rw [if_pos rfl, Rat.neg_mul, Rat.neg_neg]
end Go.Proofs.YtgngdkjghdohiaaGreat
end
section
namespace Go.Proofs.YtgngdkjghdohiaaGreat
open Go Go.Mach Ieee
set_option linter.unusedVariables false

theorem abs_ex (x : Rat) : ∃ y, 0 <= y /\ Bd x y /\ y * y = x * x := by
  rcases (Rat.le_total : x <= 0 \/ 0 <= x) with h | h
  · exact ⟨-x, by grind, by unfold Bd; grind, by grind⟩
  · exact ⟨x, h, by unfold Bd; grind, rfl⟩
theorem tS_le : tS <= 1 := by
  unfold tS
  have h1 := Ue_mul 400
  have h2 := one_le_pow 400
  have h3 := Ue_pos 400
  generalize (2 : Rat) ^ 400 = p at *
  generalize Ue 400 = u at *
  have := Rat.mul_nonneg (by grind : 0 <= p - 1) (by grind : 0 <= u)
  grind
theorem eta_le : eta * 1267650600228229401496703205376 <= uu := by
  have h1 := eta_small
  have h2 := tS_le
  have := Rat.mul_nonneg (by grind : 0 <= 1 - tS) (by grind : (0 : Rat) <= uu)
  grind
theorem Bg_ge : (1267650600228229401496703205376 : Rat) <= Bg := by
  have h1 := big_ok (c := 1267650600228229401496703205376) Rat.le_refl
  have h2 : 1 <= tG := by unfold tG; exact one_le_pow 400
  have := Rat.mul_nonneg (by grind : 0 <= tG - 1) (by grind : (0 : Rat) <= 1267650600228229401496703205376)
  grind
theorem sq_alg {P L : Rat} (h : Bd (P - L) (uu * L + eta)) (hL : 0 <= L) (he : eta * 1267650600228229401496703205376 <= uu) (he0 : 0 < eta) : Bd (P - L) (uu * L + uu / 100000) := h.mono (by grind)
theorem self_near {l : Fl} (hl : finF l = true) (hb : Bd (rv l) 3) : finF (fmul l l) = true /\ Bd (rv (fmul l l) - rv l * rv l) (uu * (rv l * rv l) + uu / 100000) := by
  have h0 := sq_nonneg (rv l)
  have hB := Bg_ge
  have h1 : Bd (rv l * rv l) (rv l * rv l) := by unfold Bd; exact ⟨by grind, Rat.le_refl⟩
  have h2 : Bd (rv l * rv l) Bg := (hb.mul hb).mono (by grind)
  obtain ⟨m1, m2, m3⟩ := mul_near hl hl h2
  exact ⟨m1, sq_alg (m3 _ h1) h0 eta_le eta_pos⟩
theorem acc_alg {S s P L t : Rat} {c : Rat} (hS : Bd (S - s) (c * uu * (s + 1 / 10000))) (hP : Bd (P - L) (uu * L + uu / 100000)) (hs : 0 <= s) (hL : 0 <= L) (hs2 : s <= 40) (hL2 : L <= 40) (hc : 0 <= c) (hc2 : c <= 10) (hc3 : 1 <= c) (ht : ∀ A, Bd (S + P) A -> Bd (t - (S + P)) (uu * A)) : Bd (t - (s + L)) ((c + 10001 / 10000) * uu * (s + L + 1 / 10000)) := by
  obtain ⟨a1, a2⟩ := hS
  obtain ⟨b1, b2⟩ := hP
  have cs := Rat.mul_nonneg hc hs
  have cl := Rat.mul_nonneg (by grind : 0 <= c - 1) hL
  have cs2 := Rat.mul_nonneg (by grind : 0 <= 10 - c) hs
  have e : c * uu * (s + 1 / 10000) = uu * (c * s) + uu * c / 10000 := by grind
  have e2 : (c + 10001 / 10000) * uu * (s + L + 1 / 10000) = uu * (c * s) + uu * (c * L) + uu * c / 10000 + 10001 / 10000 * uu * (s + L + 1 / 10000) := by grind
  rw [e] at a1 a2
  rw [e2]
  have e3 : (c - 1) * L = c * L - L := by grind
  have e4 : (10 - c) * s = 10 * s - c * s := by grind
  rw [e3] at cl
  rw [e4] at cs2
  generalize c * s = x at *
  generalize c * L = y at *
  have h := ht (s + L + uu * x + uu * c / 10000 + uu * L + uu / 100000) ⟨by grind, by grind⟩
  obtain ⟨d1, d2⟩ := h
  constructor <;> grind
theorem len4_near {l0 l1 l2 l3 : Fl} (f0 : finF l0 = true) (f1 : finF l1 = true) (f2 : finF l2 = true) (f3 : finF l3 = true) (b0 : Bd (rv l0) 3) (b1 : Bd (rv l1) 3) (b2 : Bd (rv l2) 3) (b3 : Bd (rv l3) 3) :
    finF (fadd (fadd (fadd (fadd (some 0) (fmul l0 l0)) (fmul l1 l1)) (fmul l2 l2)) (fmul l3 l3)) = true /\
    Bd (rv (fadd (fadd (fadd (fadd (some 0) (fmul l0 l0)) (fmul l1 l1)) (fmul l2 l2)) (fmul l3 l3)) - (rv l0 * rv l0 + rv l1 * rv l1 + rv l2 * rv l2 + rv l3 * rv l3)) (501 / 100 * uu * (rv l0 * rv l0 + rv l1 * rv l1 + rv l2 * rv l2 + rv l3 * rv l3 + 1 / 10000)) := by
  obtain ⟨g0, h0⟩ := self_near f0 b0
  obtain ⟨g1, h1⟩ := self_near f1 b1
  obtain ⟨g2, h2⟩ := self_near f2 b2
  obtain ⟨g3, h3⟩ := self_near f3 b3
  have q0 := sq_nonneg (rv l0)
  have q1 := sq_nonneg (rv l1)
  have q2 := sq_nonneg (rv l2)
  have q3 := sq_nonneg (rv l3)
  have r0 := b0.sq
  have r1 := b1.sq
  have r2 := b2.sq
  have r3 := b3.sq
  generalize fmul l0 l0 = P0 at *
  generalize fmul l1 l1 = P1 at *
  generalize fmul l2 l2 = P2 at *
  generalize fmul l3 l3 = P3 at *
  generalize rv l0 * rv l0 = L0 at *
  generalize rv l1 * rv l1 = L1 at *
  generalize rv l2 * rv l2 = L2 at *
  generalize rv l3 * rv l3 = L3 at *
  have hB := Bg_ge
  have z := rv_zero
  have s0 : Bd (rv (some 0) - 0) (1 * uu * (0 + 1 / 10000)) := by rw [z.2]; unfold Bd; grind
  obtain ⟨m0, n0⟩ := add_near z.1 g0 (by rw [z.2]; obtain ⟨a, b⟩ := h0; exact ⟨by grind, by grind⟩)
  have s1 := acc_alg s0 h0 Rat.le_refl q0 (by grind) (by grind) (by grind) (by grind) (by grind) n0
  rw [Rat.zero_add] at s1
  obtain ⟨m1, n1⟩ := add_near m0 g1 (by obtain ⟨a, b⟩ := h1; obtain ⟨c, d⟩ := s1; exact ⟨by grind, by grind⟩)
  have s2 := acc_alg s1 h1 q0 q1 (by grind) (by grind) (by grind) (by grind) (by grind) n1
  obtain ⟨m2, n2⟩ := add_near m1 g2 (by obtain ⟨a, b⟩ := h2; obtain ⟨c, d⟩ := s2; exact ⟨by grind, by grind⟩)
  have s3 := acc_alg s2 h2 (by grind) q2 (by grind) (by grind) (by grind) (by grind) (by grind) n2
  obtain ⟨m3, n3⟩ := add_near m2 g3 (by obtain ⟨a, b⟩ := h3; obtain ⟨c, d⟩ := s3; exact ⟨by grind, by grind⟩)
  have s4 := acc_alg s3 h3 (by grind) q3 (by grind) (by grind) (by grind) (by grind) (by grind) n3
  exact ⟨m3, s4.mono (by grind)⟩
theorem quo_sq {q y a : Rat} (h : Bd (q - y) (2 * uu * a + eta)) (ha : a * a = y * y) (ha0 : 0 <= a) (ha2 : a <= 4) (hy : Bd y a) (he : eta * 1267650600228229401496703205376 <= uu) (he0 : 0 < eta) : Bd (q * q - y * y) (401 / 100 * uu * (y * y) + uu / 100000) := by
  have h1 := hy.mul h
  have h2 := h.sq
  have h3 := sq_nonneg (q - y)
  have h4 := Rat.mul_nonneg ha0 (by grind : 0 <= eta)
  have h5 := Rat.mul_nonneg (by grind : 0 <= 4 - a) (by grind : 0 <= eta)
  have e1 : a * (2 * uu * a + eta) = 2 * uu * (y * y) + a * eta := by rw [<- ha]; grind
  have e2 : (2 * uu * a + eta) * (2 * uu * a + eta) = 4 * uu * uu * (y * y) + 4 * uu * (a * eta) + eta * eta := by rw [<- ha]; grind
  rw [e1] at h1
  rw [e2] at h2
  have e3 : (4 - a) * eta = 4 * eta - a * eta := by grind
  rw [e3] at h5
  have h6 := sq_nonneg y
  have h7 := Rat.mul_nonneg (by grind : 0 <= 1 - eta) (by grind : 0 <= eta)
  have e4 : (1 - eta) * eta = eta - eta * eta := by grind
  rw [e4] at h7
  have e5 : (q - y) * (q - y) = q * q - 2 * (q * y) + y * y := by grind
  have e6 : y * (q - y) = q * y - y * y := by grind
  rw [e5] at h2 h3
  rw [e6] at h1
  obtain ⟨a1, a2⟩ := h1
  generalize a * eta = t at *
  generalize eta * eta = ee at *
  generalize y * y = Y at *
  generalize q * y = X at *
  generalize q * q = Q at *
  constructor <;> grind
theorem y_alg {s n R Y : Rat} (hs : 1 <= s) (hn : Bd (n - s) (501 / 100 * uu * (s + 1 / 10000))) (hR : Bd (R - n) (3 * uu * n)) (hR0 : 0 < R) (hY : Y * R = s) : Bd (Y - 1) (81 / 10 * uu) /\ 0 <= Y := by
  obtain ⟨a1, a2⟩ := hn
  obtain ⟨b1, b2⟩ := hR
  have hY0 : 0 <= Y := by
    rcases (Rat.le_total : Y <= 0 \/ 0 <= Y) with h | h
    · have := Rat.mul_nonneg (by grind : 0 <= -Y) (by grind : 0 <= R)
      grind
    · exact h
  have c1 : R <= s + 805 / 100 * uu * s := by grind
  have c2 : s - 805 / 100 * uu * s <= R := by grind
  refine ⟨⟨?_, ?_⟩, hY0⟩
  · rcases (Rat.le_total : Y - 1 <= -(81 / 10 * uu) \/ -(81 / 10 * uu) <= Y - 1) with h | h
    · have := Rat.mul_nonneg (by grind : 0 <= (1 - 81 / 10 * uu) - Y) (by grind : 0 <= R)
      grind
    · exact h
  · rcases (Rat.le_total : Y - 1 <= 81 / 10 * uu \/ 81 / 10 * uu <= Y - 1) with h | h
    · exact h
    · have := Rat.mul_nonneg (by grind : 0 <= Y - (1 + 81 / 10 * uu)) (by grind : 0 <= R)
      grind
end Go.Proofs.YtgngdkjghdohiaaGreat
end
section
namespace Go.Proofs.YtgngdkjghdohiaaGreat
open Go Go.Mach Ieee
set_option linter.unusedVariables false

theorem four_alg {y R l : Rat} (hR : R ≠ 0) (h : y = l / R) : y * y * (R * R) = l * l := by
  subst h
  have : l / R * R = l := by grind
  have e : l / R * (l / R) * (R * R) = (l / R * R) * (l / R * R) := by grind
  rw [e, this]
theorem a_small {a Y yy : Rat} (h : a * a = yy) (h1 : yy <= Y) (h2 : Y <= 2) (h0 : 0 <= a) : a <= 4 := by
  rcases (Rat.le_total : a <= 4 \/ 4 <= a) with h3 | h3
  · exact h3
  · have := Rat.mul_nonneg (by grind : 0 <= a - 4) (by grind : 0 <= a - 4)
    grind
theorem one_quo {l g : Fl} (hl : finF l = true) (hg : finF g = true) (h0 : 0 < rv g) {Y : Rat} (hY : Y <= 2) (hle : rv l / rv g * (rv l / rv g) <= Y) : finF (fdiv l g) = true /\ Bd (rv (fdiv l g) * rv (fdiv l g) - rv l / rv g * (rv l / rv g)) (401 / 100 * uu * (rv l / rv g * (rv l / rv g)) + uu / 100000) := by
  obtain ⟨a, a0, a1, a2⟩ := abs_ex (rv l / rv g)
  have a4 := a_small a2 hle hY a0
  have hB := Bg_ge
  obtain ⟨d1, d2, d3⟩ := div_near hl hg (by intro h; rw [h] at h0; exact absurd h0 (by decide)) (a1.mono (by grind))
  exact ⟨d1, quo_sq (d3 a a1) a2 a0 a4 a1 eta_le eta_pos⟩
theorem unit_alg {Y y0 y1 y2 y3 q0 q1 q2 q3 : Rat} (hY : y0 + y1 + y2 + y3 = Y) (h : Bd (Y - 1) (81 / 10 * uu)) (h0 : Bd (q0 - y0) (401 / 100 * uu * y0 + uu / 100000)) (h1 : Bd (q1 - y1) (401 / 100 * uu * y1 + uu / 100000)) (h2 : Bd (q2 - y2) (401 / 100 * uu * y2 + uu / 100000)) (h3 : Bd (q3 - y3) (401 / 100 * uu * y3 + uu / 100000)) : Bd (q0 + q1 + q2 + q3 - 1) (1 / 562949953421312) := by
  obtain ⟨a, b⟩ := h
  obtain ⟨a0, b0⟩ := h0
  obtain ⟨a1, b1⟩ := h1
  obtain ⟨a2, b2⟩ := h2
  obtain ⟨a3, b3⟩ := h3
  constructor <;> grind
theorem unit_near {l0 l1 l2 l3 : Fl} (f0 : finF l0 = true) (f1 : finF l1 = true) (f2 : finF l2 = true) (f3 : finF l3 = true) (b0 : Bd (rv l0) 3) (b1 : Bd (rv l1) 3) (b2 : Bd (rv l2) 3) (b3 : Bd (rv l3) 3)
    (h1 : 1 <= rv l0 * rv l0 + rv l1 * rv l1 + rv l2 * rv l2 + rv l3 * rv l3) {g : Fl} (hg : g = fsqrt (fadd (fadd (fadd (fadd (some 0) (fmul l0 l0)) (fmul l1 l1)) (fmul l2 l2)) (fmul l3 l3))) :
    (finF (fdiv l0 g) = true /\ finF (fdiv l1 g) = true /\ finF (fdiv l2 g) = true /\ finF (fdiv l3 g) = true) /\
    Bd (rv (fdiv l0 g) * rv (fdiv l0 g) + rv (fdiv l1 g) * rv (fdiv l1 g) + rv (fdiv l2 g) * rv (fdiv l2 g) + rv (fdiv l3 g) * rv (fdiv l3 g) - 1) (1 / 562949953421312) := by
  obtain ⟨n1, n2⟩ := len4_near f0 f1 f2 f3 b0 b1 b2 b3
  generalize fadd (fadd (fadd (fadd (some 0) (fmul l0 l0)) (fmul l1 l1)) (fmul l2 l2)) (fmul l3 l3) = n at *
  have hn0 : 0 < rv n := by
    obtain ⟨a, b⟩ := n2
    generalize rv l0 * rv l0 + rv l1 * rv l1 + rv l2 * rv l2 + rv l3 * rv l3 = s at *
    grind
  obtain ⟨s1, s2, s3⟩ := sqrt_near n1 hn0
  rw [<- hg] at s1 s2 s3
  have hr0 : rv g ≠ 0 := by intro h; rw [h] at s2; exact absurd s2 (by decide)
  have hrr := Rat.mul_pos s2 s2
  have e0 := four_alg hr0 (rfl : rv l0 / rv g = rv l0 / rv g)
  have e1 := four_alg hr0 (rfl : rv l1 / rv g = rv l1 / rv g)
  have e2 := four_alg hr0 (rfl : rv l2 / rv g = rv l2 / rv g)
  have e3 := four_alg hr0 (rfl : rv l3 / rv g = rv l3 / rv g)
  have z0 := sq_nonneg (rv l0 / rv g)
  have z1 := sq_nonneg (rv l1 / rv g)
  have z2 := sq_nonneg (rv l2 / rv g)
  have z3 := sq_nonneg (rv l3 / rv g)
  have eY : (rv l0 / rv g * (rv l0 / rv g) + rv l1 / rv g * (rv l1 / rv g) + rv l2 / rv g * (rv l2 / rv g) + rv l3 / rv g * (rv l3 / rv g)) * (rv g * rv g) = rv l0 * rv l0 + rv l1 * rv l1 + rv l2 * rv l2 + rv l3 * rv l3 := by
    rw [<- e0, <- e1, <- e2, <- e3, Rat.add_mul, Rat.add_mul, Rat.add_mul]
  obtain ⟨y1, y2⟩ := y_alg h1 n2 s3 hrr eY
  generalize hYY : rv l0 / rv g * (rv l0 / rv g) + rv l1 / rv g * (rv l1 / rv g) + rv l2 / rv g * (rv l2 / rv g) + rv l3 / rv g * (rv l3 / rv g) = Y at *
  have hY2 : Y <= 2 := by obtain ⟨a, b⟩ := y1; grind
  clear e0 e1 e2 e3
  obtain ⟨d0, k0⟩ := one_quo f0 s1 s2 hY2 (by generalize rv l0 / rv g * (rv l0 / rv g) = x at *; grind)
  obtain ⟨d1, k1⟩ := one_quo f1 s1 s2 hY2 (by generalize rv l1 / rv g * (rv l1 / rv g) = x at *; grind)
  obtain ⟨d2, k2⟩ := one_quo f2 s1 s2 hY2 (by generalize rv l2 / rv g * (rv l2 / rv g) = x at *; grind)
  obtain ⟨d3, k3⟩ := one_quo f3 s1 s2 hY2 (by generalize rv l3 / rv g * (rv l3 / rv g) = x at *; grind)
  exact ⟨⟨d0, d1, d2, d3⟩, unit_alg hYY y1 k0 k1 k2 k3⟩
end Go.Proofs.YtgngdkjghdohiaaGreat
end
section
namespace Go.Proofs.YtgngdkjghdohiaaGreat
open Go Go.Mach Ieee
set_option linter.unusedVariables false

theorem room1 : Room 1 := by
  have h1 := eta_le
  have h2 := Bg_ge
  have h3 := eta_pos
  exact ⟨by grind, .inr (by grind), by grind⟩
theorem p_near {a b : Fl} (ha : finF a = true) (hb : finF b = true) (ba : Bd (rv a) kap) (bb : Bd (rv b) kap) : Ap (fmul a b) (rv a * rv b) (101 / 100 * uu) /\ Bd (rv a * rv b) (101 / 100) :=
  ⟨prod_near room1 (Ap.self ha) ba (Ap.self hb) bb (by grind) (by grind) (by grind) (by grind), (ba.mul bb).mono (by grind)⟩
theorem add_st {x y : Fl} {a b e A f C E D : Rat} (hx : Ap x a e /\ Bd a A) (hy : Ap y b f /\ Bd b C) (hE : e + f + uu * (A + C + e + f) <= E) (hD : A + C <= D) (hb : A + C + e + f <= 1000) : Ap (fadd x y) (a + b) E /\ Bd (a + b) D := by
  have h := hx.2.add hy.2
  have hB := Bg_ge
  exact ⟨(Ap.add hx.1 hy.1 h (by grind)).mono hE, h.mono hD⟩
theorem sub_st {x y : Fl} {a b e A f C E D : Rat} (hx : Ap x a e /\ Bd a A) (hy : Ap y b f /\ Bd b C) (hE : e + f + uu * (A + C + e + f) <= E) (hD : A + C <= D) (hb : A + C + e + f <= 1000) : Ap (fsub x y) (a - b) E /\ Bd (a - b) D := by
  have h := hx.2.sub hy.2
  have hB := Bg_ge
  exact ⟨(Ap.sub hx.1 hy.1 h (by grind)).mono hE, h.mono hD⟩
theorem eulerR (a b c d p q r s : Rat) : (a * p - b * q - c * r - d * s) * (a * p - b * q - c * r - d * s) + (a * q + b * p + c * s - d * r) * (a * q + b * p + c * s - d * r) + (a * r - b * s + c * p + d * q) * (a * r - b * s + c * p + d * q) + (a * s + b * r - c * q + d * p) * (a * s + b * r - c * q + d * p) = (a * a + b * b + c * c + d * d) * (p * p + q * q + r * r + s * s) := by grind
end Go.Proofs.YtgngdkjghdohiaaGreat
end
section
namespace Go.Proofs.YtgngdkjghdohiaaGreat
open Go Go.Mach Ieee
set_option linter.unusedVariables false

theorem qmul_near2 {a b c d p q r s : Fl} (fa : finF a = true) (fb : finF b = true) (fc : finF c = true) (fd : finF d = true) (fp : finF p = true) (fq : finF q = true) (fr : finF r = true) (fs : finF s = true)
    (ba : Bd (rv a) kap) (bb : Bd (rv b) kap) (bc : Bd (rv c) kap) (bd : Bd (rv d) kap) (bp : Bd (rv p) kap) (bq : Bd (rv q) kap) (br : Bd (rv r) kap) (bs : Bd (rv s) kap) :
    Ap (fsub (fsub (fsub (fmul a p) (fmul b q)) (fmul c r)) (fmul d s)) (rv a * rv p - rv b * rv q - rv c * rv r - rv d * rv s) (27 / 2 * uu) /\
    Ap (fsub (fadd (fadd (fmul a q) (fmul b p)) (fmul c s)) (fmul d r)) (rv a * rv q + rv b * rv p + rv c * rv s - rv d * rv r) (27 / 2 * uu) /\
    Ap (fadd (fadd (fsub (fmul a r) (fmul b s)) (fmul c p)) (fmul d q)) (rv a * rv r - rv b * rv s + rv c * rv p + rv d * rv q) (27 / 2 * uu) /\
    Ap (fadd (fsub (fadd (fmul a s) (fmul b r)) (fmul c q)) (fmul d p)) (rv a * rv s + rv b * rv r - rv c * rv q + rv d * rv p) (27 / 2 * uu) := by
  refine ⟨?_, ?_, ?_, ?_⟩
  · have h1 := sub_st (E := 81 / 20 * uu) (D := 203 / 100) (p_near fa fp ba bp) (p_near fb fq bb bq) (by grind) (by grind) (by grind)
    have h2 := sub_st (E := 41 / 5 * uu) (D := 305 / 100) h1 (p_near fc fr bc br) (by grind) (by grind) (by grind)
    exact (sub_st (E := 27 / 2 * uu) (D := 5) h2 (p_near fd fs bd bs) (by grind) (by grind) (by grind)).1
  · have h1 := add_st (E := 81 / 20 * uu) (D := 203 / 100) (p_near fa fq ba bq) (p_near fb fp bb bp) (by grind) (by grind) (by grind)
    have h2 := add_st (E := 41 / 5 * uu) (D := 305 / 100) h1 (p_near fc fs bc bs) (by grind) (by grind) (by grind)
    exact (sub_st (E := 27 / 2 * uu) (D := 5) h2 (p_near fd fr bd br) (by grind) (by grind) (by grind)).1
  · have h1 := sub_st (E := 81 / 20 * uu) (D := 203 / 100) (p_near fa fr ba br) (p_near fb fs bb bs) (by grind) (by grind) (by grind)
    have h2 := add_st (E := 41 / 5 * uu) (D := 305 / 100) h1 (p_near fc fp bc bp) (by grind) (by grind) (by grind)
    exact (add_st (E := 27 / 2 * uu) (D := 5) h2 (p_near fd fq bd bq) (by grind) (by grind) (by grind)).1
  · have h1 := add_st (E := 81 / 20 * uu) (D := 203 / 100) (p_near fa fs ba bs) (p_near fb fr bb br) (by grind) (by grind) (by grind)
    have h2 := sub_st (E := 41 / 5 * uu) (D := 305 / 100) h1 (p_near fc fq bc bq) (by grind) (by grind) (by grind)
    exact (add_st (E := 27 / 2 * uu) (D := 5) h2 (p_near fd fp bd bp) (by grind) (by grind) (by grind)).1

def ra (w x y z : Rat) : Rat := w * w + x * x - y * y - z * z
def rb (w x y z : Rat) : Rat := 2 * (x * y - w * z)
def rc (w x y z : Rat) : Rat := 2 * (x * z + w * y)
def R0 (w x y z p q r : Rat) : Rat := ra w x y z * p + rb w x y z * q + rc w x y z * r
def T0 (w x y z p q r : Rat) : Rat := p + w * ((y * r - z * q) * 2) + (y * ((x * q - y * p) * 2) - z * ((z * p - x * r) * 2))
theorem T0_R0 (w x y z p q r : Rat) : T0 w x y z p q r = R0 w x y z p q r - (w * w + x * x + y * y + z * z - 1) * p := by
  unfold T0 R0 ra rb rc; grind
theorem T0_lin (w x y z p q r p' q' r' : Rat) : T0 w x y z (p + p') (q + q') (r + r') = T0 w x y z p q r + T0 w x y z p' q' r' := by
  unfold T0; grind
def Nq (w x y z : Rat) : Rat := w * w + x * x + y * y + z * z
theorem ra_mul (a b c d p q r s : Rat) : ra (a * p - b * q - c * r - d * s) (a * q + b * p + c * s - d * r) (a * r - b * s + c * p + d * q) (a * s + b * r - c * q + d * p) = ra a b c d * ra p q r s + rb a b c d * rc p r s q + rc a b c d * rb p s q r := by
  unfold ra rb rc; grind
theorem rb_mul (a b c d p q r s : Rat) : rb (a * p - b * q - c * r - d * s) (a * q + b * p + c * s - d * r) (a * r - b * s + c * p + d * q) (a * s + b * r - c * q + d * p) = ra a b c d * rb p q r s + rb a b c d * ra p r s q + rc a b c d * rc p s q r := by
  unfold ra rb rc; grind
theorem rc_mul (a b c d p q r s : Rat) : rc (a * p - b * q - c * r - d * s) (a * q + b * p + c * s - d * r) (a * r - b * s + c * p + d * q) (a * s + b * r - c * q + d * p) = ra a b c d * rc p q r s + rb a b c d * rb p r s q + rc a b c d * ra p s q r := by
  unfold ra rb rc; grind
theorem R0_mul (a b c d p q r s u v t : Rat) : R0 (a * p - b * q - c * r - d * s) (a * q + b * p + c * s - d * r) (a * r - b * s + c * p + d * q) (a * s + b * r - c * q + d * p) u v t =
    R0 a b c d (R0 p q r s u v t) (R0 p r s q v t u) (R0 p s q r t u v) := by
  have h1 := ra_mul a b c d p q r s
  have h2 := rb_mul a b c d p q r s
  have h3 := rc_mul a b c d p q r s
  unfold R0
  rw [h1, h2, h3]
  generalize ra a b c d = A
  generalize rb a b c d = B
  generalize rc a b c d = C
  generalize ra p q r s = a1
  generalize rb p q r s = b1
  generalize rc p q r s = c1
  generalize ra p r s q = a2
  generalize rb p r s q = b2
  generalize rc p r s q = c2
  generalize ra p s q r = a3
  generalize rb p s q r = b3
  generalize rc p s q r = c3
  grind
theorem row_bd (w x y z : Rat) : Bd (ra w x y z) (Nq w x y z) /\ Bd (rb w x y z) (Nq w x y z) /\ Bd (rc w x y z) (Nq w x y z) := by
  have h1 := sq_nonneg w
  have h2 := sq_nonneg x
  have h3 := sq_nonneg y
  have h4 := sq_nonneg z
  have a1 := sq_nonneg (x - y)
  have a2 := sq_nonneg (x + y)
  have a3 := sq_nonneg (w - z)
  have a4 := sq_nonneg (w + z)
  have b1 := sq_nonneg (x - z)
  have b2 := sq_nonneg (x + z)
  have b3 := sq_nonneg (w - y)
  have b4 := sq_nonneg (w + y)
  unfold ra rb rc Nq Bd
  refine ⟨⟨by grind, by grind⟩, ⟨by grind, by grind⟩, ⟨by grind, by grind⟩⟩
theorem prod_off {x y x' y' k d : Rat} (hx : Bd x k) (hy : Bd y k) (h1 : Bd (x' - x) d) (h2 : Bd (y' - y) d) : Bd (x' * y' - x * y) (2 * k * d + d * d) := by
  have a := hx.mul h2
  have b := hy.mul h1
  have c := h1.mul h2
  obtain ⟨a1, a2⟩ := a
  obtain ⟨b1, b2⟩ := b
  obtain ⟨c1, c2⟩ := c
  constructor <;> grind
theorem sum4_off {a b c d a' b' c' d' e : Rat} (h1 : Bd (a' - a) e) (h2 : Bd (b' - b) e) (h3 : Bd (c' - c) e) (h4 : Bd (d' - d) e) : Bd (a' + b' - c' - d' - (a + b - c - d)) (4 * e) := by
  obtain ⟨a1, a2⟩ := h1
  obtain ⟨b1, b2⟩ := h2
  obtain ⟨c1, c2⟩ := h3
  obtain ⟨d1, d2⟩ := h4
  constructor <;> grind
theorem sub2_off {a b a' b' e : Rat} (h1 : Bd (a' - a) e) (h2 : Bd (b' - b) e) : Bd (2 * (a' - b') - 2 * (a - b)) (4 * e) := by
  obtain ⟨a1, a2⟩ := h1
  obtain ⟨b1, b2⟩ := h2
  constructor <;> grind
theorem add2_off {a b a' b' e : Rat} (h1 : Bd (a' - a) e) (h2 : Bd (b' - b) e) : Bd (2 * (a' + b') - 2 * (a + b)) (4 * e) := by
  obtain ⟨a1, a2⟩ := h1
  obtain ⟨b1, b2⟩ := h2
  constructor <;> grind
theorem row_off {w x y z w' x' y' z' k d : Rat} (hw : Bd w k) (hx : Bd x k) (hy : Bd y k) (hz : Bd z k) (gw : Bd (w' - w) d) (gx : Bd (x' - x) d) (gy : Bd (y' - y) d) (gz : Bd (z' - z) d) :
    Bd (ra w' x' y' z' - ra w x y z) (4 * (2 * k * d + d * d)) /\ Bd (rb w' x' y' z' - rb w x y z) (4 * (2 * k * d + d * d)) /\ Bd (rc w' x' y' z' - rc w x y z) (4 * (2 * k * d + d * d)) := by
  unfold ra rb rc
  exact ⟨sum4_off (prod_off hw hw gw gw) (prod_off hx hx gx gx) (prod_off hy hy gy gy) (prod_off hz hz gz gz),
    sub2_off (prod_off hx hy gx gy) (prod_off hw hz gw gz), add2_off (prod_off hx hz gx gz) (prod_off hw hy gw gy)⟩
theorem row_scale (c w x y z : Rat) : ra (c * w) (c * x) (c * y) (c * z) = c * c * ra w x y z /\ rb (c * w) (c * x) (c * y) (c * z) = c * c * rb w x y z /\ rc (c * w) (c * x) (c * y) (c * z) = c * c * rc w x y z := by
  unfold ra rb rc
  refine ⟨by grind, by grind, by grind⟩
theorem Nq_off {w x y z w' x' y' z' k d : Rat} (hw : Bd w k) (hx : Bd x k) (hy : Bd y k) (hz : Bd z k) (gw : Bd (w' - w) d) (gx : Bd (x' - x) d) (gy : Bd (y' - y) d) (gz : Bd (z' - z) d) : Bd (Nq w' x' y' z' - Nq w x y z) (4 * (2 * k * d + d * d)) := by
  obtain ⟨a1, a2⟩ := prod_off hw hw gw gw
  obtain ⟨b1, b2⟩ := prod_off hx hx gx gx
  obtain ⟨c1, c2⟩ := prod_off hy hy gy gy
  obtain ⟨d1, d2⟩ := prod_off hz hz gz gz
  unfold Nq
  constructor <;> grind
theorem T0_bd {w x y z p q r m : Rat} (hN : Bd (Nq w x y z - 1) (1 / 1000)) (hp : Bd p m) (hq : Bd q m) (hr : Bd r m) : Bd (T0 w x y z p q r) (301 / 100 * m) := by
  obtain ⟨h1, h2, h3⟩ := row_bd w x y z
  have m0 := hp.nonneg
  have hN1 : Nq w x y z <= 1001 / 1000 := by have := hN.2; grind
  have a := (h1.mono hN1).mul hp
  have b := (h2.mono hN1).mul hq
  have c := (h3.mono hN1).mul hr
  have d := hN.mul hp
  have e := T0_R0 w x y z p q r
  have eN : w * w + x * x + y * y + z * z - 1 = Nq w x y z - 1 := rfl
  rw [eN] at e
  rw [e]
  unfold R0
  obtain ⟨a1, a2⟩ := a
  obtain ⟨b1, b2⟩ := b
  obtain ⟨c1, c2⟩ := c
  obtain ⟨d1, d2⟩ := d
  constructor <;> grind
end Go.Proofs.YtgngdkjghdohiaaGreat
end
section
namespace Go.Proofs.YtgngdkjghdohiaaGreat
open Go Go.Mach Ieee
set_option linter.unusedVariables false

def Un (w x y z : Rat) : Prop := Bd (Nq w x y z - 1) (1 / 281474976710656)
theorem Un.n {w x y z : Rat} (h : Un w x y z) : Bd (Nq w x y z - 1) (1 / 1000) := Bd.mono h (by grind)
theorem Un.cyc {w x y z : Rat} (h : Un w x y z) : Un w y z x := by
  unfold Un Nq at *
  have : w * w + y * y + z * z + x * x - 1 = w * w + x * x + y * y + z * z - 1 := by grind
  rw [this]; exact h
theorem Nq_mul (a b c d p q r s : Rat) : Nq (a * p - b * q - c * r - d * s) (a * q + b * p + c * s - d * r) (a * r - b * s + c * p + d * q) (a * s + b * r - c * q + d * p) = Nq a b c d * Nq p q r s := eulerR a b c d p q r s
theorem N2 {A B : Rat} (hA : Bd (A - 1) (1 / 281474976710656)) (hB : Bd (B - 1) (1 / 281474976710656)) : Bd (A * B - 1) (641 / 10 * uu) := by
  obtain ⟨a1, a2⟩ := hA
  obtain ⟨b1, b2⟩ := hB
  have h := Bd.mul ⟨a1, a2⟩ (⟨b1, b2⟩ : Bd (B - 1) (1 / 281474976710656))
  obtain ⟨c1, c2⟩ := h
  have e : (A - 1) * (B - 1) = A * B - A - B + 1 := by grind
  rw [e] at c1 c2
  generalize A * B = C at *
  constructor <;> grind
theorem behind {a b c d p q r s u v t m : Rat} (ha : Un a b c d) (hb : Un p q r s) (hu : Bd u m) (hv : Bd v m) (ht : Bd t m) :
    Bd (R0 (a * p - b * q - c * r - d * s) (a * q + b * p + c * s - d * r) (a * r - b * s + c * p + d * q) (a * s + b * r - c * q + d * p) u v t - T0 a b c d (T0 p q r s u v t) (T0 p r s q v t u) (T0 p s q r t u v)) (194 * uu * m) := by
  have m0 := hu.nonneg
  rw [R0_mul]
  have e1 := T0_R0 p q r s u v t
  have e2 := T0_R0 p r s q v t u
  have e3 := T0_R0 p s q r t u v
  have f1 : p * p + q * q + r * r + s * s - 1 = Nq p q r s - 1 := rfl
  have f2 : p * p + r * r + s * s + q * q - 1 = Nq p q r s - 1 := by unfold Nq; grind
  have f3 : p * p + s * s + q * q + r * r - 1 = Nq p q r s - 1 := by unfold Nq; grind
  rw [f1] at e1
  rw [f2] at e2
  rw [f3] at e3
  have hT := T0_bd hb.n hu hv ht
  have e0 := T0_R0 a b c d (T0 p q r s u v t) (T0 p r s q v t u) (T0 p s q r t u v)
  have f0 : a * a + b * b + c * c + d * d - 1 = Nq a b c d - 1 := rfl
  rw [f0] at e0
  have hTa := T0_bd ha.n hu hv ht
  have e4 := T0_R0 a b c d u v t
  rw [f0] at e4
  have k1 := Bd.mul ha hT
  have k2 := Bd.mul hb hTa
  have k3 := Bd.mul ha hu
  have k4 := Bd.mul hb k3
  have key : R0 a b c d (R0 p q r s u v t) (R0 p r s q v t u) (R0 p s q r t u v) - T0 a b c d (T0 p q r s u v t) (T0 p r s q v t u) (T0 p s q r t u v) = (Nq p q r s - 1) * T0 a b c d u v t + (Nq p q r s - 1) * ((Nq a b c d - 1) * u) + (Nq a b c d - 1) * T0 p q r s u v t := by
    rw [e0, e4]
    generalize T0 p q r s u v t = X at *
    generalize T0 p r s q v t u = Y at *
    generalize T0 p s q r t u v = Z at *
    have g1 : R0 p q r s u v t = X + (Nq p q r s - 1) * u := by rw [e1]; grind
    have g2 : R0 p r s q v t u = Y + (Nq p q r s - 1) * v := by rw [e2]; grind
    have g3 : R0 p s q r t u v = Z + (Nq p q r s - 1) * t := by rw [e3]; grind
    rw [g1, g2, g3]
    generalize Nq p q r s - 1 = S
    generalize Nq a b c d - 1 = W
    unfold R0
    generalize ra a b c d = A
    generalize rb a b c d = B
    generalize rc a b c d = C
    grind
  rw [key]
  obtain ⟨a1, a2⟩ := k1
  obtain ⟨b1, b2⟩ := k2
  obtain ⟨c1, c2⟩ := k4
  constructor <;> grind
theorem c2_alg {C N Y : Rat} (h : C * N = Y) (hY : Bd (Y - 1) (81 / 10 * uu)) (hN : Bd (N - 1) (1820 / 10 * uu)) : Bd (C - 1) (1904 / 10 * uu) := by
  obtain ⟨a1, a2⟩ := hY
  obtain ⟨b1, b2⟩ := hN
  constructor
  · rcases (Rat.le_total : -(1904 / 10 * uu) <= C - 1 \/ C - 1 <= -(1904 / 10 * uu)) with k | k
    · exact k
    · have := Rat.mul_nonneg (by grind : 0 <= (1 - 1904 / 10 * uu) - C) (by grind : 0 <= N)
      grind
  · rcases (Rat.le_total : C - 1 <= 1904 / 10 * uu \/ 1904 / 10 * uu <= C - 1) with k | k
    · exact k
    · have := Rat.mul_nonneg (by grind : 0 <= C - (1 + 1904 / 10 * uu)) (by grind : 0 <= N)
      grind
theorem entry_alg {rj C rh rP : Rat} (h1 : Bd (rj - C * rh) (165 / 10 * uu)) (h2 : Bd (rh - rP) (1179 / 10 * uu)) (hC : Bd (C - 1) (1904 / 10 * uu)) (hP : Bd rP (1001 / 1000)) : Bd (rj - rP) (326 * uu) := by
  have k1 := Bd.mul hC hP
  have k2 := Bd.mul hC h2
  obtain ⟨a1, a2⟩ := h1
  obtain ⟨b1, b2⟩ := h2
  obtain ⟨c1, c2⟩ := k1
  obtain ⟨d1, d2⟩ := k2
  have e1 : (C - 1) * rP = C * rP - rP := by grind
  have e2 : (C - 1) * (rh - rP) = C * rh - C * rP - rh + rP := by grind
  rw [e1] at c1 c2
  rw [e2] at d1 d2
  generalize C * rP = x at *
  generalize C * rh = y at *
  constructor <;> grind
theorem joined0 {Pw Px Py Pz hw hx hy hz jw jx jy jz c u v t m : Rat} (hP : Bd (Nq Pw Px Py Pz - 1) (641 / 10 * uu)) (bw : Bd Pw kap) (bx : Bd Px kap) (bY : Bd Py kap) (bz : Bd Pz kap)
    (gw : Bd (hw - Pw) (147 / 10 * uu)) (gx : Bd (hx - Px) (147 / 10 * uu)) (gy : Bd (hy - Py) (147 / 10 * uu)) (gz : Bd (hz - Pz) (147 / 10 * uu))
    (hY : Bd (c * c * Nq hw hx hy hz - 1) (81 / 10 * uu)) (cw : Bd (c * hw) kap) (cx : Bd (c * hx) kap) (cy : Bd (c * hy) kap) (cz : Bd (c * hz) kap)
    (dw : Bd (jw - c * hw) (205 / 100 * uu)) (dx : Bd (jx - c * hx) (205 / 100 * uu)) (dy : Bd (jy - c * hy) (205 / 100 * uu)) (dz : Bd (jz - c * hz) (205 / 100 * uu))
    (hj : Bd (Nq jw jx jy jz - 1) (1 / 562949953421312)) (hu : Bd u m) (hv : Bd v m) (ht : Bd t m) : Bd (T0 jw jx jy jz u v t - R0 Pw Px Py Pz u v t) (996 * uu * m) := by
  have m0 := hu.nonneg
  obtain ⟨o1, o2, o3⟩ := row_off cw cx cy cz dw dx dy dz
  obtain ⟨s1, s2, s3⟩ := row_scale c hw hx hy hz
  rw [s1] at o1
  rw [s2] at o2
  rw [s3] at o3
  obtain ⟨q1, q2, q3⟩ := row_off bw bx bY bz gw gx gy gz
  have hN := Nq_off bw bx bY bz gw gx gy gz
  have hN1 : Bd (Nq hw hx hy hz - 1) (1820 / 10 * uu) := by
    obtain ⟨a1, a2⟩ := hN
    obtain ⟨b1, b2⟩ := hP
    constructor <;> grind
  have hC := c2_alg rfl hY hN1
  obtain ⟨p1, p2, p3⟩ := row_bd Pw Px Py Pz
  have hP1 : Nq Pw Px Py Pz <= 1001 / 1000 := by have := hP.2; grind
  have r1 := entry_alg (o1.mono (by grind)) (q1.mono (by grind)) hC (p1.mono hP1)
  have r2 := entry_alg (o2.mono (by grind)) (q2.mono (by grind)) hC (p2.mono hP1)
  have r3 := entry_alg (o3.mono (by grind)) (q3.mono (by grind)) hC (p3.mono hP1)
  have k1 := r1.mul hu
  have k2 := r2.mul hv
  have k3 := r3.mul ht
  have k4 := hj.mul hu
  have e := T0_R0 jw jx jy jz u v t
  have f : jw * jw + jx * jx + jy * jy + jz * jz - 1 = Nq jw jx jy jz - 1 := rfl
  rw [f] at e
  rw [e]
  unfold R0
  clear o1 o2 o3 s1 s2 s3 q1 q2 q3 hN hN1 hC p1 p2 p3 r1 r2 r3 e f hP bw bx bY bz gw gx gy gz hY cw cx cy cz dw dx dy dz
  generalize ra jw jx jy jz = a at *
  generalize rb jw jx jy jz = b at *
  generalize rc jw jx jy jz = d at *
  generalize ra Pw Px Py Pz = a' at *
  generalize rb Pw Px Py Pz = b' at *
  generalize rc Pw Px Py Pz = d' at *
  generalize Nq jw jx jy jz - 1 = n at *
  obtain ⟨a1, a2⟩ := k1
  obtain ⟨b1, b2⟩ := k2
  obtain ⟨c1, c2⟩ := k3
  obtain ⟨d1, d2⟩ := k4
  constructor <;> grind
end Go.Proofs.YtgngdkjghdohiaaGreat
end
section
namespace Go.Proofs.YtgngdkjghdohiaaGreat
open Go Go.Mach Ieee
set_option linter.unusedVariables false

theorem a_unit {a Y yy : Rat} (h : a * a = yy) (h1 : yy <= Y) (h2 : Y <= 1001 / 1000) (h0 : 0 <= a) : a <= kap := by
  rcases (Rat.le_total : a <= kap \/ kap <= a) with h3 | h3
  · exact h3
  · have := Rat.mul_nonneg (by grind : 0 <= a - kap) (by grind : 0 <= a + kap)
    grind
theorem quo_near {l g : Fl} (hl : finF l = true) (hg : finF g = true) (h0 : 0 < rv g) {Y : Rat} (hY : Y <= 1001 / 1000) (hle : rv l / rv g * (rv l / rv g) <= Y) : Bd (rv (fdiv l g) - rv l / rv g) (205 / 100 * uu) /\ Bd (rv l / rv g) kap := by
  obtain ⟨a, a0, a1, a2⟩ := abs_ex (rv l / rv g)
  have a4 := a_unit a2 hle hY a0
  have hB := Bg_ge
  have he := eta_le
  have he0 := eta_pos
  obtain ⟨d1, d2, d3⟩ := div_near hl hg (by intro h; rw [h] at h0; exact absurd h0 (by decide)) (a1.mono (by grind))
  exact ⟨(d3 a a1).mono (by grind), a1.mono a4⟩
theorem unit_near2 {l0 l1 l2 l3 : Fl} (f0 : finF l0 = true) (f1 : finF l1 = true) (f2 : finF l2 = true) (f3 : finF l3 = true) (b0 : Bd (rv l0) 3) (b1 : Bd (rv l1) 3) (b2 : Bd (rv l2) 3) (b3 : Bd (rv l3) 3)
    (h1 : 1 <= rv l0 * rv l0 + rv l1 * rv l1 + rv l2 * rv l2 + rv l3 * rv l3) {g : Fl} (hg : g = fsqrt (fadd (fadd (fadd (fadd (some 0) (fmul l0 l0)) (fmul l1 l1)) (fmul l2 l2)) (fmul l3 l3))) :
    0 < rv g /\ (Bd (rv (fdiv l0 g) - rv l0 / rv g) (205 / 100 * uu) /\ Bd (rv l0 / rv g) kap) /\ (Bd (rv (fdiv l1 g) - rv l1 / rv g) (205 / 100 * uu) /\ Bd (rv l1 / rv g) kap) /\ (Bd (rv (fdiv l2 g) - rv l2 / rv g) (205 / 100 * uu) /\ Bd (rv l2 / rv g) kap) /\ (Bd (rv (fdiv l3 g) - rv l3 / rv g) (205 / 100 * uu) /\ Bd (rv l3 / rv g) kap) /\
    Bd (Nq (rv l0 / rv g) (rv l1 / rv g) (rv l2 / rv g) (rv l3 / rv g) - 1) (81 / 10 * uu) := by
  obtain ⟨n1, n2⟩ := len4_near f0 f1 f2 f3 b0 b1 b2 b3
  generalize fadd (fadd (fadd (fadd (some 0) (fmul l0 l0)) (fmul l1 l1)) (fmul l2 l2)) (fmul l3 l3) = n at *
  have hn0 : 0 < rv n := by
    obtain ⟨a, b⟩ := n2
    generalize rv l0 * rv l0 + rv l1 * rv l1 + rv l2 * rv l2 + rv l3 * rv l3 = s at *
    grind
  obtain ⟨s1, s2, s3⟩ := sqrt_near n1 hn0
  rw [<- hg] at s1 s2 s3
  have hr0 : rv g ≠ 0 := by intro h; rw [h] at s2; exact absurd s2 (by decide)
  have hrr := Rat.mul_pos s2 s2
  have e0 := four_alg hr0 (rfl : rv l0 / rv g = rv l0 / rv g)
  have e1 := four_alg hr0 (rfl : rv l1 / rv g = rv l1 / rv g)
  have e2 := four_alg hr0 (rfl : rv l2 / rv g = rv l2 / rv g)
  have e3 := four_alg hr0 (rfl : rv l3 / rv g = rv l3 / rv g)
  have z0 := sq_nonneg (rv l0 / rv g)
  have z1 := sq_nonneg (rv l1 / rv g)
  have z2 := sq_nonneg (rv l2 / rv g)
  have z3 := sq_nonneg (rv l3 / rv g)
  have eY : (rv l0 / rv g * (rv l0 / rv g) + rv l1 / rv g * (rv l1 / rv g) + rv l2 / rv g * (rv l2 / rv g) + rv l3 / rv g * (rv l3 / rv g)) * (rv g * rv g) = rv l0 * rv l0 + rv l1 * rv l1 + rv l2 * rv l2 + rv l3 * rv l3 := by
    rw [<- e0, <- e1, <- e2, <- e3, Rat.add_mul, Rat.add_mul, Rat.add_mul]
  obtain ⟨y1, y2⟩ := y_alg h1 n2 s3 hrr eY
  have hNq : Nq (rv l0 / rv g) (rv l1 / rv g) (rv l2 / rv g) (rv l3 / rv g) = rv l0 / rv g * (rv l0 / rv g) + rv l1 / rv g * (rv l1 / rv g) + rv l2 / rv g * (rv l2 / rv g) + rv l3 / rv g * (rv l3 / rv g) := rfl
  rw [hNq]
  generalize hYY : rv l0 / rv g * (rv l0 / rv g) + rv l1 / rv g * (rv l1 / rv g) + rv l2 / rv g * (rv l2 / rv g) + rv l3 / rv g * (rv l3 / rv g) = Y at *
  have hY2 : Y <= 1001 / 1000 := by obtain ⟨a, b⟩ := y1; grind
  clear e0 e1 e2 e3
  exact ⟨s2, quo_near f0 s1 s2 hY2 (by generalize rv l0 / rv g * (rv l0 / rv g) = x at *; grind), quo_near f1 s1 s2 hY2 (by generalize rv l1 / rv g * (rv l1 / rv g) = x at *; grind),
    quo_near f2 s1 s2 hY2 (by generalize rv l2 / rv g * (rv l2 / rv g) = x at *; grind), quo_near f3 s1 s2 hY2 (by generalize rv l3 / rv g * (rv l3 / rv g) = x at *; grind), y1⟩
@[irreducible] def K2 : Nat := 2000
theorem K2_eq : K2 = 2000 := by unfold K2; rfl
def pz (k : Int) : Rat := 2 ^ (k + (K2 : Int)).toNat * Ue K2
theorem pz_pos (k : Int) : 0 < pz k := Rat.mul_pos (two_pos _) (Ue_pos _)
theorem scl_near {x : Fl} (hx : finF x = true) {k : Int} (h1 : -2000 <= k) (hb : Bd (rv x * pz k) Bg) : ∀ A, Bd (rv x * pz k) A -> Bd (rv (sclF x k) - rv x * pz k) (uu * A + eta) := by
  obtain ⟨b, s, m, i, rfl, h⟩ := finF_num hx
  have gi := place_ge h
  intro A hA
  rw [sclF_num h]
  have hK := K2_eq
  have hS := Sp_eq
  have ex : ((signed s m (i + k + ((Sp + K2 : Nat) : Int)).toNat : Int) : Rat) * Ue (Sp + K2) = rv (some b) * pz k := by
    rw [rv_num h, signed_cast, signed_cast]
    unfold pz
    have e : (i + k + ((Sp + K2 : Nat) : Int)).toNat = (i + 1074).toNat + (k + (K2 : Int)).toNat := by omega
    rw [e, Nat.pow_add, Ue_add, Rat.natCast_mul, Rat.natCast_mul, Rat.natCast_mul, Rat.natCast_pow _ (k + (K2 : Int)).toNat]
    generalize ((2 ^ (i + 1074).toNat : Nat) : Rat) = a
    have e2 : ((2 : Nat) : Rat) ^ (k + (K2 : Int)).toNat = (2 : Rat) ^ (k + (K2 : Int)).toNat := rfl
    rw [e2]
    generalize (2 : Rat) ^ (k + (K2 : Int)).toNat = c
    generalize Ue Sp = u
    generalize Ue K2 = v
    generalize (m : Rat) = n
    cases s
    · rw [if_neg (by decide), if_neg (by decide)]; grind
    · rw [if_pos rfl, if_pos rfl]; grind
  by_cases hm : m = 0
  · have e1 : rv (some b) * pz k = 0 := by rw [<- ex, hm, signed_zero]; exact Rat.zero_mul _
    rw [hm, nearest_zero, (rv_word0 s).2, e1]
    refine Bd_zero ?_
    have := hA.nonneg
    have := eta_pos
    grind
  · have hg := not_great hm (i := i + k) (E := Sp + K2) (by omega) (by rw [ex]; exact hb)
    obtain ⟨n1, n2⟩ := near_rat s hm (i := i + k) (by omega) (E := Sp + K2) (by omega) (by omega)
    have h3 := n2 A (by rw [ex]; exact hA)
    rw [ex] at h3
    have h4 : (if -1074 <= i + k then (0 : Rat) else eta) <= eta := by
      have := eta_pos
      split <;> grind
    generalize (if -1074 <= i + k then (0 : Rat) else eta) = w at h3 h4
    obtain ⟨a1, a2⟩ := h3
    exact ⟨by grind, by grind⟩
end Go.Proofs.YtgngdkjghdohiaaGreat
end
section
namespace Go.Proofs.YtgngdkjghdohiaaGreat
open Go Go.Mach Ieee
set_option linter.unusedVariables false

theorem bd_of_n {a R N : Rat} (hR : 0 <= R) (h : a * a + R = N) (hN : Bd (N - 1) (1 / 1000)) : Bd a kap := by
  obtain ⟨h1, h2⟩ := hN
  obtain ⟨y, y0, y1, y2⟩ := abs_ex a
  have := a_unit y2 (by grind : a * a <= N) (by grind) y0
  exact y1.mono this
theorem Un_bd {w x y z : Rat} (h : Bd (Nq w x y z - 1) (1 / 1000)) : Bd w kap /\ Bd x kap /\ Bd y kap /\ Bd z kap := by
  have s0 := sq_nonneg w
  have s1 := sq_nonneg x
  have s2 := sq_nonneg y
  have s3 := sq_nonneg z
  refine ⟨bd_of_n (R := x * x + y * y + z * z) (by grind) ?_ h, bd_of_n (R := w * w + y * y + z * z) (by grind) ?_ h, bd_of_n (R := w * w + x * x + z * z) (by grind) ?_ h, bd_of_n (R := w * w + x * x + y * y) (by grind) ?_ h⟩ <;> (unfold Nq; grind)
theorem close0 {a b c d p q r s : Rat} (ha : Un a b c d) (hb : Un p q r s) {hw hx hy hz jw jx jy jz cc u v t m : Rat}
    (gw : Bd (hw - (a * p - b * q - c * r - d * s)) (147 / 10 * uu)) (gx : Bd (hx - (a * q + b * p + c * s - d * r)) (147 / 10 * uu)) (gy : Bd (hy - (a * r - b * s + c * p + d * q)) (147 / 10 * uu)) (gz : Bd (hz - (a * s + b * r - c * q + d * p)) (147 / 10 * uu))
    (hY : Bd (cc * cc * Nq hw hx hy hz - 1) (81 / 10 * uu)) (cw : Bd (cc * hw) kap) (cx : Bd (cc * hx) kap) (cy : Bd (cc * hy) kap) (cz : Bd (cc * hz) kap)
    (dw : Bd (jw - cc * hw) (205 / 100 * uu)) (dx : Bd (jx - cc * hx) (205 / 100 * uu)) (dy : Bd (jy - cc * hy) (205 / 100 * uu)) (dz : Bd (jz - cc * hz) (205 / 100 * uu))
    (hj : Bd (Nq jw jx jy jz - 1) (1 / 562949953421312)) (hu : Bd u m) (hv : Bd v m) (ht : Bd t m) :
    Bd (T0 jw jx jy jz u v t - T0 a b c d (T0 p q r s u v t) (T0 p r s q v t u) (T0 p s q r t u v)) (1190 * uu * m) := by
  have hP : Bd (Nq (a * p - b * q - c * r - d * s) (a * q + b * p + c * s - d * r) (a * r - b * s + c * p + d * q) (a * s + b * r - c * q + d * p) - 1) (641 / 10 * uu) := by
    rw [Nq_mul]; exact N2 ha hb
  obtain ⟨b0, b1, b2, b3⟩ := Un_bd (hP.mono (by grind))
  have k1 := joined0 hP b0 b1 b2 b3 gw gx gy gz hY cw cx cy cz dw dx dy dz hj hu hv ht
  have k2 := behind ha hb hu hv ht
  obtain ⟨a1, a2⟩ := k1
  obtain ⟨c1, c2⟩ := k2
  constructor <;> grind
theorem through {a b c d X Y Z x y z e : Rat} (ha : Un a b c d) (hx : Bd (x - X) e) (hy : Bd (y - Y) e) (hz : Bd (z - Z) e) : Bd (T0 a b c d x y z - T0 a b c d X Y Z) (301 / 100 * e) := by
  have h := T0_bd ha.n hx hy hz
  have l := T0_lin a b c d X Y Z (x - X) (y - Y) (z - Z)
  have e1 : X + (x - X) = x := by grind
  have e2 : Y + (y - Y) = y := by grind
  have e3 : Z + (z - Z) = z := by grind
  rw [e1, e2, e3] at l
  rw [l]
  have e4 : T0 a b c d X Y Z + T0 a b c d (x - X) (y - Y) (z - Z) - T0 a b c d X Y Z = T0 a b c d (x - X) (y - Y) (z - Z) := by grind
  rw [e4]; exact h
theorem Un.neg {a b c d : Rat} (h : Un a b c d) : Un a (-b) (-c) (-d) := by
  unfold Un Nq at *
  have : a * a + -b * -b + -c * -c + -d * -d - 1 = a * a + b * b + c * c + d * d - 1 := by grind
  rw [this]; exact h
theorem back0 {a b c d u v t m : Rat} (ha : Un a b c d) (hu : Bd u m) (hv : Bd v m) (ht : Bd t m) : Bd (T0 a (-b) (-c) (-d) (T0 a b c d u v t) (T0 a c d b v t u) (T0 a d b c t u v) - u) (260 * uu * m) := by
  have m0 := hu.nonneg
  have k := behind ha.neg ha hu hv ht
  have e : R0 (a * a - -b * b - -c * c - -d * d) (a * b + -b * a + -c * d - -d * c) (a * c - -b * d + -c * a + -d * b) (a * d + -b * c - -c * b + -d * a) u v t = Nq a b c d * Nq a b c d * u := by
    unfold R0 ra rb rc Nq
    have z1 : a * b + -b * a + -c * d - -d * c = 0 := by grind
    have z2 : a * c - -b * d + -c * a + -d * b = 0 := by grind
    have z3 : a * d + -b * c - -c * b + -d * a = 0 := by grind
    rw [z1, z2, z3]
    have w1 : a * a - -b * b - -c * c - -d * d = a * a + b * b + c * c + d * d := by grind
    rw [w1]
    generalize a * a + b * b + c * c + d * d = n
    grind
  rw [e] at k
  have h2 := (N2 ha ha).mul hu
  generalize T0 a (-b) (-c) (-d) (T0 a b c d u v t) (T0 a c d b v t u) (T0 a d b c t u v) = X at *
  have e5 : (Nq a b c d * Nq a b c d - 1) * u = Nq a b c d * Nq a b c d * u - u := by grind
  rw [e5] at h2
  generalize Nq a b c d * Nq a b c d * u = Y at *
  obtain ⟨a1, a2⟩ := k
  obtain ⟨b1, b2⟩ := h2
  constructor <;> grind
theorem T0_mat (w x y z p q r : Rat) : T0 w x y z p q r = (1 - 2 * (y * y + z * z)) * p + 2 * (x * y - w * z) * q + 2 * (x * z + w * y) * r := by
  unfold T0; grind
theorem quo_z {l x z A e : Rat} (hz : 0 < z) (hz1 : 99 / 100 <= z) (h : Bd (l - x * z) (uu * (A * z) + e)) (he : 0 <= e) : Bd (l / z - x) (uu * A + 102 / 100 * e) := by
  have hz0 : z ≠ 0 := by grind
  have e1 : (l / z - x) * z = l - x * z := by grind
  rw [<- e1] at h
  generalize l / z - x = t at *
  obtain ⟨a1, a2⟩ := h
  have k0 := Rat.mul_nonneg (by grind : 0 <= z - 99 / 100) he
  constructor
  · rcases (Rat.le_total : -(uu * A + 102 / 100 * e) <= t \/ t <= -(uu * A + 102 / 100 * e)) with k | k
    · exact k
    · have := Rat.mul_nonneg (by grind : 0 <= -(uu * A + 102 / 100 * e) - t) (by grind : 0 <= z)
      by_cases h0 : t = -(uu * A + 102 / 100 * e)
      · rw [h0]; exact Rat.le_refl
      · have := Rat.mul_pos (by grind : 0 < -(uu * A + 102 / 100 * e) - t) hz
        grind
  · rcases (Rat.le_total : t <= uu * A + 102 / 100 * e \/ uu * A + 102 / 100 * e <= t) with k | k
    · exact k
    · by_cases h0 : t = uu * A + 102 / 100 * e
      · rw [h0]; exact Rat.le_refl
      · have := Rat.mul_pos (by grind : 0 < t - (uu * A + 102 / 100 * e)) hz
        grind
end Go.Proofs.YtgngdkjghdohiaaGreat
end
