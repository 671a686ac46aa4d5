/-
  FLOATS: how far what is written lies from what was meant, in units of the least place.
  Conditions: none.
-/
import Derived.Test.YtnfgnjciliapaaaGreatDoorFlA
import Derived.Test.YtnfgnjciliapaaaGreatDoorL1
section
namespace Go.Proofs.YtnfgnjciliapaaaGreatDoor
open Go Go.Mach Ieee
set_option linter.unusedVariables false

def rung (r : Nat) : Nat := if r < 4503599627370496 then r else (4503599627370496 + r % 4503599627370496) * 2 ^ (r / 4503599627370496 - 1)
theorem read_rung (s : Bool) {r : Nat} (h : r < 9218868437227405312) : ∃ m i, Ieee.double.read (Ieee.double.word s r) = .number s m i /\ -1074 <= i /\ m * 2 ^ (i + 1074).toNat = rung r := by
  have hw : Ieee.double.word s r % 9223372036854775808 = r := by
    unfold Format.word; rw [signWeight_d]; cases s <;> simp <;> omega
  have hs : (Ieee.double.word s r / 9223372036854775808 % 2 == 1) = s := by
    unfold Format.word; rw [signWeight_d]
    cases s
    · simp; omega
    · have : (9223372036854775808 + r) / 9223372036854775808 = 1 := by omega
      simp [this]
  unfold Format.read rung
  simp only [signWeight_d, binade_d, infRung_d, leastPlace_d, hw, hs]
  split
  · refine ⟨_, _, rfl, by omega, ?_⟩
    show r * 2 ^ 0 = r
    omega
  · refine ⟨_, _, rfl, by omega, ?_⟩
    congr 2
    omega
theorem rung_kept (p kept : Nat) (h1 : kept <= 9007199254740992) (h2 : p = 0 \/ 4503599627370496 <= kept) : rung (p * 4503599627370496 + kept) = kept * 2 ^ p := by
  unfold rung
  by_cases hp : p = 0
  · subst hp
    rw [Nat.zero_mul, Nat.zero_add, Nat.pow_zero, Nat.mul_one]
    split
    · rfl
    · by_cases hk : kept = 9007199254740992
      · subst hk; decide
      · have e1 : kept / 4503599627370496 = 1 := by omega
        rw [e1, Nat.sub_self, Nat.pow_zero]; omega
  · have hk := h2.resolve_left hp
    rw [if_neg (by omega)]
    by_cases he : kept = 9007199254740992
    · subst he
      have e1 : (p * 4503599627370496 + 9007199254740992) % 4503599627370496 = 0 := by omega
      have e2 : (p * 4503599627370496 + 9007199254740992) / 4503599627370496 - 1 = p + 1 := by omega
      generalize (p * 4503599627370496 + 9007199254740992) % 4503599627370496 = a at e1 ⊢
      generalize (p * 4503599627370496 + 9007199254740992) / 4503599627370496 - 1 = b at e2 ⊢
      have e3 : 2 ^ b = 2 ^ p * 2 := by rw [e2, Nat.pow_succ]
      subst e1
      rw [e3]
      generalize 2 ^ p = y
      omega
    · have e1 : (p * 4503599627370496 + kept) % 4503599627370496 = kept - 4503599627370496 := by omega
      have e2 : (p * 4503599627370496 + kept) / 4503599627370496 - 1 = p := by omega
      rw [e2]
      exact congrArg (fun z => z * 2 ^ p) (by rw [e1]; omega)
theorem cut_near (s : Bool) (n d : Nat) (hd : 1 <= d) : 2 * (Toward.even.cut s n d * 2 ^ d) <= 2 * n + 2 ^ d /\ 2 * n <= 2 * (Toward.even.cut s n d * 2 ^ d) + 2 ^ d := by
  unfold Toward.cut
  dsimp only
  have h2 : n < 2 ^ (n.log2 + 1) := Nat.lt_log2_self
  have hg : ∀ g low rest : Nat, 0 < g -> n = g * low + rest -> rest < g -> ∀ b : Bool, (b = true -> g <= 2 * rest) -> (b = false -> 2 * rest <= g) -> 2 * ((low + b.toNat) * g) <= 2 * n + g /\ 2 * n <= 2 * ((low + b.toNat) * g) + g := by
    intro g low rest hg hn hr b h1 h2
    have e : (low + b.toNat) * g = g * low + b.toNat * g := by rw [Nat.add_mul, Nat.mul_comm low g]
    rw [e]
    cases b
    · have := h2 rfl
      simp only [Bool.toNat_false, Nat.zero_mul]; omega
    · have := h1 rfl
      simp only [Bool.toNat_true, Nat.one_mul]; omega
  by_cases h : d <= n.log2 + 2
  · rw [Nat.min_eq_left h, Nat.shiftLeft_eq, Nat.one_mul]
    refine hg (2 ^ d) _ _ (Nat.two_pow_pos d) (Nat.div_add_mod n (2 ^ d)).symm (Nat.mod_lt _ (Nat.two_pow_pos d)) _ (fun hb => ?_) (fun hb => ?_)
    · simp only [Bool.or_eq_true, decide_eq_true_eq, Bool.and_eq_true, beq_iff_eq] at hb
      rcases hb with h | h <;> omega
    · simp only [Bool.or_eq_false_iff, decide_eq_false_iff_not] at hb
      omega
  · rw [Nat.min_eq_right (by omega), Nat.shiftLeft_eq, Nat.one_mul]
    have hlt : n < 2 ^ (n.log2 + 2) := Nat.lt_trans h2 (Nat.pow_lt_pow_right (by decide) (by omega))
    have e1 : n / 2 ^ (n.log2 + 2) = 0 := Nat.div_eq_of_lt hlt
    have e2 : n % 2 ^ (n.log2 + 2) = n := Nat.mod_eq_of_lt hlt
    have e3 : 2 ^ (n.log2 + 2) = 2 * 2 ^ (n.log2 + 1) := by rw [Nat.pow_succ]; omega
    rw [e1, e2]
    have hb : (decide (2 ^ (n.log2 + 2) < 2 * n) || (2 ^ (n.log2 + 2) == 2 * n && 0 % 2 == 1)) = false := by
      simp only [Bool.or_eq_false_iff, decide_eq_false_iff_not, Bool.and_eq_false_iff]
      exact ⟨by omega, .inr rfl⟩
    rw [hb]
    simp only [Bool.toNat_false, Nat.add_zero, Nat.zero_mul, Nat.mul_zero, Nat.zero_add]
    have : 2 ^ (n.log2 + 2) <= 2 ^ d := Nat.pow_le_pow_right (by decide) (by omega)
    omega
theorem nearest_val (s : Bool) {m : Nat} (h0 : m ≠ 0) {i : Int} (hb : i + m.log2 <= 1000) : ∃ m' i' V, Ieee.double.read (Ieee.double.nearest s m i) = .number s m' i' /\ m' * 2 ^ (i' + 1074).toNat = V /\
    ∀ E : Nat, 1074 <= E -> 0 <= i + E -> 9007199254740992 * (V * 2 ^ (E - 1074)) <= 9007199254740992 * (m * 2 ^ (i + E).toNat) + (m * 2 ^ (i + E).toNat + if -1074 <= i then 0 else 4503599627370496 * 2 ^ (E - 1074)) /\
      9007199254740992 * (m * 2 ^ (i + E).toNat) <= 9007199254740992 * (V * 2 ^ (E - 1074)) + (m * 2 ^ (i + E).toNat + if -1074 <= i then 0 else 4503599627370496 * 2 ^ (E - 1074)) := by
  unfold Format.nearest
  rw [if_neg h0, leastPlace_d, binade_d, infRung_d]
  have hf : Ieee.double.fractionBits = 52 := rfl
  rw [hf]
  generalize hL : max (i + (m.log2 : Int) - ((52 : Nat) : Int)) (-1074) = L
  have hL1 : -1074 <= L := by omega
  have hlg := Nat.log2_self_le h0
  have hlg2 : m < 2 ^ (m.log2 + 1) := Nat.lt_log2_self
  have key : ∃ kept, Toward.even.cut s (m <<< (i - L).toNat) (L - i).toNat = kept /\ kept <= 9007199254740992 /\ ((L + 1074).toNat = 0 \/ 4503599627370496 <= kept) /\
      ∀ E : Nat, 1074 <= E -> 0 <= i + E -> 9007199254740992 * (kept * 2 ^ (L + 1074).toNat * 2 ^ (E - 1074)) <= 9007199254740992 * (m * 2 ^ (i + E).toNat) + (m * 2 ^ (i + E).toNat + if -1074 <= i then 0 else 4503599627370496 * 2 ^ (E - 1074)) /\
        9007199254740992 * (m * 2 ^ (i + E).toNat) <= 9007199254740992 * (kept * 2 ^ (L + 1074).toNat * 2 ^ (E - 1074)) + (m * 2 ^ (i + E).toNat + if -1074 <= i then 0 else 4503599627370496 * 2 ^ (E - 1074)) := by
    refine ⟨_, rfl, ?_, ?_, ?_⟩
    · have h1 : m <<< (i - L).toNat ≠ 0 := by
        rw [Nat.shiftLeft_eq]
        exact Nat.mul_ne_zero h0 (Nat.pos_iff_ne_zero.1 (Nat.two_pow_pos _))
      refine Nat.le_trans (cut_le s _ _ h1) ?_
      have h2 : (m <<< (i - L).toNat).log2 + 1 - (L - i).toNat <= 53 := by
        rw [log2_shl h0]; omega
      exact Nat.le_trans (Nat.pow_le_pow_right (by decide) h2) (by decide)
    · by_cases hz : (L + 1074).toNat = 0
      · exact .inl hz
      · right
        have hL2 : L = i + (m.log2 : Int) - 52 := by omega
        by_cases hl : 52 <= m.log2
        · have e1 : (i - L).toNat = 0 := by omega
          have e2 : (L - i).toNat = m.log2 - 52 := by omega
          rw [e1, e2, Nat.shiftLeft_zero]
          refine Nat.le_trans ?_ (cut_ge s m (m.log2 - 52) (by omega))
          rw [Nat.shiftLeft_eq, Nat.one_mul, Nat.le_div_iff_mul_le (Nat.two_pow_pos _)]
          have : 4503599627370496 * 2 ^ (m.log2 - 52) = 2 ^ m.log2 := by
            rw [show (4503599627370496 : Nat) = 2 ^ 52 by decide, <- Nat.pow_add, show 52 + (m.log2 - 52) = m.log2 by omega]
          omega
        · have e1 : (i - L).toNat = 52 - m.log2 := by omega
          have e2 : (L - i).toNat = 0 := by omega
          rw [e1, e2]
          refine Nat.le_trans ?_ (cut_ge s _ 0 (by omega))
          rw [Nat.shiftLeft_eq, Nat.shiftLeft_zero, Nat.div_one]
          have : 4503599627370496 = 2 ^ m.log2 * 2 ^ (52 - m.log2) := by
            rw [<- Nat.pow_add, show m.log2 + (52 - m.log2) = 52 by omega]
          rw [this]
          exact Nat.mul_le_mul_right _ hlg
    · intro E hE hiE
      by_cases hLi : L <= i
      · have e1 : (L - i).toNat = 0 := by omega
        rw [e1, cut_zero, Nat.shiftLeft_eq, Nat.mul_assoc, Nat.mul_assoc, <- Nat.pow_add, <- Nat.pow_add, show (i - L).toNat + ((L + 1074).toNat + (E - 1074)) = (i + E).toNat by omega]
        exact ⟨Nat.le_add_right _ _, Nat.le_add_right _ _⟩
      · have e1 : (i - L).toNat = 0 := by omega
        rw [e1, Nat.shiftLeft_zero]
        obtain ⟨c1, c2⟩ := cut_near s m (L - i).toNat (by omega)
        generalize Toward.even.cut s m (L - i).toNat = kept at c1 c2
        have e2 : kept * 2 ^ (L + 1074).toNat * 2 ^ (E - 1074) = kept * 2 ^ (L - i).toNat * 2 ^ (i + E).toNat := by
          have ee : (L + 1074).toNat + (E - 1074) = (L - i).toNat + (i + E).toNat := by omega
          rw [Nat.mul_assoc, Nat.mul_assoc, <- Nat.pow_add, <- Nat.pow_add, ee]
        rw [e2]
        have e3 : 4503599627370496 * (2 ^ (L - i).toNat * 2 ^ (i + E).toNat) <= m * 2 ^ (i + E).toNat + if -1074 <= i then 0 else 4503599627370496 * 2 ^ (E - 1074) := by
          rw [<- Nat.pow_add]
          by_cases hz : L = -1074
          · rw [if_neg (by omega), show (L - i).toNat + (i + E).toNat = E - 1074 by omega]
            exact Nat.le_add_left _ _
          · have : 4503599627370496 * 2 ^ ((L - i).toNat + (i + E).toNat) = 2 ^ m.log2 * 2 ^ (i + E).toNat := by
              have ee : 52 + ((L - i).toNat + (i + E).toNat) = m.log2 + (i + E).toNat := by omega
              rw [show (4503599627370496 : Nat) = 2 ^ 52 by decide, <- Nat.pow_add, <- Nat.pow_add, ee]
            rw [this]
            exact Nat.le_trans (Nat.mul_le_mul_right _ hlg) (Nat.le_add_right _ _)
        generalize 2 ^ (i + E).toNat = P at e3 ⊢
        generalize (if -1074 <= i then 0 else 4503599627370496 * 2 ^ (E - 1074)) = z at e3 ⊢
        generalize kept * 2 ^ (L - i).toNat = K at c1 c2 ⊢
        generalize 2 ^ (L - i).toNat = D at c1 c2 e3
        have c3 : 2 * (K * P) <= 2 * (m * P) + D * P := by
          have := Nat.mul_le_mul_right P c1
          rwa [Nat.add_mul, Nat.mul_assoc, Nat.mul_assoc] at this
        have c4 : 2 * (m * P) <= 2 * (K * P) + D * P := by
          have := Nat.mul_le_mul_right P c2
          rwa [Nat.add_mul, Nat.mul_assoc, Nat.mul_assoc] at this
        generalize K * P = x at c3 c4 ⊢
        generalize D * P = y at c3 c4 e3
        generalize m * P = w at c3 c4 e3 ⊢
        omega
  obtain ⟨kept, hk, k1, k2, k3⟩ := key
  simp only [hk]
  have hr : (L - -1074).toNat * 4503599627370496 + kept < 9218868437227405312 := by omega
  rw [Nat.min_eq_left (by omega)]
  obtain ⟨m', i', h1, h2, h3⟩ := read_rung s hr
  refine ⟨m', i', kept * 2 ^ (L + 1074).toNat, h1, ?_, k3⟩
  rw [h3, show (L - -1074).toNat = (L + 1074).toNat by omega]
  exact rung_kept _ _ k1 k2
end Go.Proofs.YtnfgnjciliapaaaGreatDoor
end
section
namespace Go.Proofs.YtnfgnjciliapaaaGreatDoor
open Go Go.Mach Ieee
set_option linter.unusedVariables false

theorem pow_addR (a b : Nat) : (2 : Rat) ^ (a + b) = 2 ^ a * 2 ^ b := by
  induction b with
  | zero => rw [Nat.add_zero, Rat.pow_zero, Rat.mul_one]
  | succ n ih => rw [<- Nat.add_assoc, Rat.pow_succ, Rat.pow_succ, ih, Rat.mul_assoc]
def Bd (d e : Rat) : Prop := -e <= d /\ d <= e
abbrev uu : Rat := 1 / 9007199254740992
theorem alg1 {B x U P : Rat} (h : P * U = 1) (h2 : 0 <= (B - x * U) * P) : x <= B * P := by
  have : x * U * P = x := by rw [Rat.mul_assoc, Rat.mul_comm U P, h, Rat.mul_one]
  grind
theorem alg2 {v x w A : Rat} (g1 : 0 <= 9007199254740992 * x + (x + 9007199254740992 * w) - 9007199254740992 * v) (g2 : 0 <= 9007199254740992 * v + (x + 9007199254740992 * w) - 9007199254740992 * x) (a : x <= A) : Bd (v - x) (uu * A + w) /\ Bd (-v - -x) (uu * A + w) := by
  unfold Bd; grind
theorem alg3 {V P z X U v : Rat} (h : 9007199254740992 * (V * P) <= 9007199254740992 * X + (X + z)) (hU : 0 <= U) (e : V * P * U = v) : 0 <= 9007199254740992 * (X * U) + (X * U + z * U) - 9007199254740992 * v := by
  have := Rat.mul_nonneg (by grind : (0 : Rat) <= 9007199254740992 * X + (X + z) - 9007199254740992 * (V * P)) hU
  rw [<- e]; grind
theorem alg4 {V P z X U v : Rat} (h : 9007199254740992 * X <= 9007199254740992 * (V * P) + (X + z)) (hU : 0 <= U) (e : V * P * U = v) : 0 <= 9007199254740992 * v + (X * U + z * U) - 9007199254740992 * (X * U) := by
  have := Rat.mul_nonneg (by grind : (0 : Rat) <= 9007199254740992 * (V * P) + (X + z) - 9007199254740992 * X) hU
  rw [<- e]; grind
theorem alg5 {P U S e : Rat} (h : P * U = 1) (h2 : e * 2 = S) : 4503599627370496 * P * (S * U) = 9007199254740992 * e := by
  have : P * (S * U) = S * (P * U) := by grind
  grind
theorem alg6 {x A : Rat} (h : Bd (-x) A) : x <= A := by
  have := h.1; grind
theorem cast1 (V F : Nat) : ((9007199254740992 * (V * 2 ^ F) : Nat) : Rat) = (9007199254740992 : Rat) * ((V : Rat) * 2 ^ F) := by
  rw [Rat.natCast_mul, Rat.natCast_mul, Rat.natCast_pow]; rfl
theorem cast2 (X z : Nat) : ((9007199254740992 * X + (X + z) : Nat) : Rat) = (9007199254740992 : Rat) * X + (X + z) := by
  rw [Rat.natCast_add, Rat.natCast_add, Rat.natCast_mul]; rfl
theorem cast3 (X : Nat) : ((9007199254740992 * X : Nat) : Rat) = (9007199254740992 : Rat) * X := by
  rw [Rat.natCast_mul]; rfl
theorem cast4 (Y X z : Nat) : ((9007199254740992 * Y + (X + z) : Nat) : Rat) = ((9007199254740992 * Y : Nat) : Rat) + (X + z) := by
  rw [Rat.natCast_add, Rat.natCast_add]
theorem cast5 (F : Nat) : ((4503599627370496 * 2 ^ F : Nat) : Rat) = (4503599627370496 : Rat) * 2 ^ F := by
  rw [Rat.natCast_mul, Rat.natCast_pow]; rfl
@[irreducible] def Ue (E : Nat) : Rat := 1 / 2 ^ E
theorem two_pos (E : Nat) : (0 : Rat) < 2 ^ E := by
  induction E with
  | zero => decide
  | succ n ih => rw [Rat.pow_succ]; exact Rat.mul_pos ih (by decide)
theorem Ue_mul (E : Nat) : (2 : Rat) ^ E * Ue E = 1 := by
  unfold Ue
  have := two_pos E
  grind
theorem Ue_pos (E : Nat) : 0 < Ue E := by
  have h1 := Ue_mul E
  have h2 := two_pos E
  rcases (Rat.le_total : Ue E <= 0 \/ 0 <= Ue E) with h | h
  · have := Rat.mul_nonneg (by grind : 0 <= -(Ue E)) (by grind : (0 : Rat) <= 2 ^ E)
    grind
  · by_cases h0 : Ue E = 0
    · rw [h0, Rat.mul_zero] at h1; exact absurd h1 (by decide)
    · exact Rat.lt_of_le_of_ne h (fun e => h0 e.symm)
theorem Ue_add (a b : Nat) : Ue (a + b) = Ue a * Ue b := by
  have h1 := Ue_mul a
  have h2 := Ue_mul b
  have h3 := Ue_mul (a + b)
  have h4 : (2 : Rat) ^ (a + b) = 2 ^ a * 2 ^ b := by grind
  have h5 : (2 : Rat) ^ (a + b) * (Ue a * Ue b) = 1 := by rw [h4]; grind
  have h6 : (2 : Rat) ^ (a + b) ≠ 0 := by have := two_pos (a + b); grind
  grind
theorem Ue_le {a b : Nat} (h : a <= b) : Ue b <= Ue a := by
  obtain ⟨c, rfl⟩ : ∃ c, b = a + c := ⟨b - a, by omega⟩
  rw [Ue_add]
  have h1 := Ue_pos a
  have h2 := Ue_mul c
  have h3 : (1 : Rat) <= 2 ^ c := by
    clear h2
    induction c with
    | zero => decide
    | succ n ih => rw [Rat.pow_succ]; have := ih (by omega); grind
  have h4 := Ue_pos c
  have h5 := Rat.mul_nonneg (by grind : (0 : Rat) <= 2 ^ c - 1) (by grind : 0 <= Ue c)
  have h6 := Rat.mul_nonneg (by grind : (0 : Rat) <= Ue a) (by grind : 0 <= 1 - Ue c)
  grind
@[irreducible] def Sp : Nat := 1074
theorem Sp_eq : Sp = 1074 := by unfold Sp; rfl
def rv (x : Fl) : Rat := (vl x : Rat) * Ue Sp
def eta : Rat := Ue (Sp + 1)
theorem eta_pos : 0 < eta := Ue_pos _
@[irreducible] def Bg : Rat := 2 ^ 900
theorem signed_cast (s : Bool) (m k : Nat) : ((signed s m k : Int) : Rat) = if s = true then -((m * 2 ^ k : Nat) : Rat) else ((m * 2 ^ k : Nat) : Rat) := by
  unfold signed
  rw [Nat.shiftLeft_eq]
  cases s
  · simp only [Bool.false_eq_true, if_false, Rat.intCast_natCast]
  · simp only [if_true, Rat.intCast_neg, Rat.intCast_natCast]
theorem not_great {s : Bool} {m : Nat} {i : Int} (hm : m ≠ 0) {E : Nat} (hi : 0 <= i + E) (h : Bd (((signed s m (i + E).toNat : Int) : Rat) * Ue E) Bg) : i + m.log2 <= 900 := by
  have h0 : ((m * 2 ^ (i + E).toNat : Nat) : Rat) * Ue E <= Bg := by
    rw [signed_cast] at h
    obtain ⟨h1, h2⟩ := h
    cases s
    · simpa using h2
    · rw [if_pos rfl, Rat.neg_mul] at h1 h2
      exact alg6 ⟨h1, h2⟩
  have h1 : ((m * 2 ^ (i + E).toNat : Nat) : Rat) <= 2 ^ (900 + E) := by
    have e1 := Ue_mul E
    have e2 := two_pos E
    have e3 := Rat.mul_nonneg ((Rat.le_iff_sub_nonneg _ _).1 h0) (Rat.le_of_lt e2)
    have e4 : (2 : Rat) ^ (900 + E) = Bg * 2 ^ E := by rw [pow_addR]; unfold Bg; rfl
    rw [e4]
    exact alg1 e1 e3
  have h2 : m * 2 ^ (i + E).toNat <= 2 ^ (900 + E) := by
    have e : ((2 ^ (900 + E) : Nat) : Rat) = 2 ^ (900 + E) := by rw [Rat.natCast_pow]; rfl
    rw [<- e] at h1
    exact Rat.natCast_le_natCast.1 h1
  have h3 : 2 ^ (m.log2 + (i + E).toNat) <= 2 ^ (900 + E) := by
    rw [Nat.pow_add]
    exact Nat.le_trans (Nat.mul_le_mul_right _ (Nat.log2_self_le hm)) h2
  have h4 := (Nat.pow_le_pow_iff_right (by decide : 1 < 2)).1 h3
  omega
theorem near_rat (s : Bool) {m : Nat} (hm : m ≠ 0) {i : Int} (hb : i + m.log2 <= 1000) {E : Nat} (hE : 1074 <= E) (hi : 0 <= i + E) :
    finF (some (Ieee.double.nearest s m i)) = true /\ ∀ A, Bd (((signed s m (i + E).toNat : Int) : Rat) * Ue E) A -> Bd (rv (some (Ieee.double.nearest s m i)) - ((signed s m (i + E).toNat : Int) : Rat) * Ue E) (uu * A + if -1074 <= i then 0 else eta) := by
  obtain ⟨m', i', V, h1, h2, h3⟩ := nearest_val s hm hb
  refine ⟨finF_of h1, fun A hA => ?_⟩
  obtain ⟨g1, g2⟩ := h3 E hE hi
  unfold rv
  rw [vl_num h1, signed_cast, h2]
  rw [signed_cast] at hA ⊢
  generalize m * 2 ^ (i + E).toNat = X at *
  have c1 := Rat.natCast_le_natCast.2 g1
  have c2 := Rat.natCast_le_natCast.2 g2
  have eE : E = 1074 + (E - 1074) := by omega
  have u1 := Ue_mul (E - 1074)
  have u2 : Ue E = Ue Sp * Ue (E - 1074) := by rw [Sp_eq, <- Ue_add, <- eE]
  have u3 := Ue_pos E
  have u4 : eta * 2 = Ue Sp := by
    unfold eta
    rw [Ue_add, Rat.mul_assoc, Rat.mul_comm (Ue 1)]
    have : (2 : Rat) * Ue 1 = 1 := Ue_mul 1
    rw [this, Rat.mul_one]
  have u5 := Ue_pos Sp
  generalize E - 1074 = F at *
  generalize hz : (if -1074 <= i then 0 else 4503599627370496 * 2 ^ F : Nat) = z at *
  have hzr : (z : Rat) * Ue E = 9007199254740992 * (if -1074 <= i then 0 else eta) := by
    rw [<- hz]
    by_cases hc : -1074 <= i
    · rw [if_pos hc, if_pos hc, Rat.mul_zero]; exact Rat.zero_mul _
    · rw [if_neg hc, if_neg hc, u2, cast5]
      exact alg5 u1 u4
  generalize (if -1074 <= i then (0 : Rat) else eta) = w at *
  rw [cast1, cast2] at c1
  rw [cast3, cast4, cast1] at c2
  have ev : (V : Rat) * 2 ^ F * Ue E = V * Ue Sp := by
    rw [u2, Rat.mul_comm (Ue Sp), <- Rat.mul_assoc, Rat.mul_assoc (V : Rat), u1, Rat.mul_one]
  have f1 := alg3 c1 (Rat.le_of_lt u3) ev
  have f2 := alg4 c2 (Rat.le_of_lt u3) ev
  rw [hzr] at f1 f2
  cases s
  · rw [if_neg (by decide)] at hA ⊢
    rw [if_neg (by decide)]
    exact (alg2 f1 f2 hA.2).1
  · rw [if_pos rfl] at hA ⊢
    rw [if_pos rfl, Rat.neg_mul, Rat.neg_mul]
    rw [Rat.neg_mul] at hA
    exact (alg2 f1 f2 (alg6 hA)).2
end Go.Proofs.YtnfgnjciliapaaaGreatDoor
end
section
namespace Go.Proofs.YtnfgnjciliapaaaGreatDoor
open Go Go.Mach Ieee
set_option linter.unusedVariables false

theorem rv_num {b : Nat} {s : Bool} {m : Nat} {i : Int} (h : Ieee.double.read b = .number s m i) : rv (some b) = ((signed s m (i + 1074).toNat : Int) : Rat) * Ue Sp := by unfold rv; rw [vl_num h]
theorem rv_word0 (s : Bool) : finF (some (Ieee.double.word s 0)) = true /\ rv (some (Ieee.double.word s 0)) = 0 := by
  have h := read_word0 s
  exact ⟨finF_of h, by rw [rv_num h, signed_zero]; exact Rat.zero_mul _⟩
theorem Bd.nonneg {d e : Rat} (h : Bd d e) : 0 <= e := by obtain ⟨h1, h2⟩ := h; grind
theorem Bd_zero {e : Rat} (h : 0 <= e) : Bd (0 - 0) e := by unfold Bd; grind
theorem sgn_ne (s : Bool) {m k E : Nat} (hm : m ≠ 0) : ((signed s m k : Int) : Rat) * Ue E ≠ 0 := by
  have h1 : (0 : Rat) < ((m * 2 ^ k : Nat) : Rat) := by
    have : ((0 : Nat) : Rat) < ((m * 2 ^ k : Nat) : Rat) := Rat.natCast_lt_natCast.2 (Nat.mul_pos (Nat.pos_of_ne_zero hm) (Nat.two_pow_pos k))
    exact this
  have h2 := Rat.mul_pos h1 (Ue_pos E)
  rw [signed_cast]
  cases s
  · rw [if_neg (by decide)]; intro h; rw [h] at h2; exact absurd h2 (by decide)
  · rw [if_pos rfl, Rat.neg_mul]; intro h
    have : ((m * 2 ^ k : Nat) : Rat) * Ue E = 0 := by generalize ((m * 2 ^ k : Nat) : Rat) * Ue E = q at h; grind
    rw [this] at h2; exact absurd h2 (by decide)
theorem mul_near {x y : Fl} (hx : finF x = true) (hy : finF y = true) (hb : Bd (rv x * rv y) Bg) : finF (fmul x y) = true /\ (rv x * rv y = 0 -> rv (fmul x y) = 0) /\ ∀ A, Bd (rv x * rv y) A -> Bd (rv (fmul x y) - rv x * rv y) (uu * A + eta) := by
  obtain ⟨c, s, m, i, rfl, rc⟩ := finF_num hx
  obtain ⟨d, t, n, j, rfl, rd⟩ := finF_num hy
  have gi := place_ge rc
  have gj := place_ge rd
  have e0 : fmul (some c) (some d) = some (Ieee.double.nearest (s ^^ t) (m * n) (i + j)) := by
    show ((Ieee.double.read c).product (Ieee.double.read d)).map Ieee.double.write = _
    rw [rc, rd]; rfl
  have ex : ((signed (s ^^ t) (m * n) (i + j + ((1074 + 1074 : Nat) : Int)).toNat : Int) : Rat) * Ue (1074 + 1074) = rv (some c) * rv (some d) := by
    rw [show (i + j + ((1074 + 1074 : Nat) : Int)).toNat = (i + 1074).toNat + (j + 1074).toNat by omega, signed_mul, Rat.intCast_mul, Ue_add, rv_num rc, rv_num rd, Sp_eq]
    generalize ((signed s m (i + 1074).toNat : Int) : Rat) = p
    generalize ((signed t n (j + 1074).toNat : Int) : Rat) = q
    generalize Ue 1074 = r
    grind
  rw [e0]
  by_cases h0 : m * n = 0
  · rw [h0, nearest_zero]
    obtain ⟨w1, w2⟩ := rv_word0 (s ^^ t)
    have e1 : rv (some c) * rv (some d) = 0 := by rw [<- ex, h0, signed_zero]; exact Rat.zero_mul _
    refine ⟨w1, fun _ => w2, fun A hA => ?_⟩
    rw [w2, e1]
    refine Bd_zero ?_
    have := hA.nonneg
    have := eta_pos
    grind
  · rw [<- ex] at hb
    have hg := not_great h0 (by omega) hb
    obtain ⟨n1, n2⟩ := near_rat (s ^^ t) h0 (i := i + j) (by omega) (E := 1074 + 1074) (by omega) (by omega)
    refine ⟨n1, fun hz => absurd (ex.trans hz) (sgn_ne _ h0), fun A hA => ?_⟩
    rw [<- ex] at hA ⊢
    have h3 := n2 A hA
    have h4 : (if -1074 <= i + j then (0 : Rat) else eta) <= eta := by
      have := eta_pos
      split <;> grind
    generalize (if -1074 <= i + j then (0 : Rat) else eta) = w at h3 h4
    obtain ⟨a1, a2⟩ := h3
    exact ⟨by grind, by grind⟩
theorem sum_near {s t : Bool} {m n : Nat} {i j : Int} (hi : -1074 <= i) (hj : -1074 <= j) {X : Rat} (hX : X = ((signed s m (i + 1074).toNat + signed t n (j + 1074).toNat : Int) : Rat) * Ue Sp) (hb : Bd X Bg) :
    ∃ w, ((Datum.number s m i).sum (.number t n j)).map Ieee.double.write = some w /\ finF (some w) = true /\ ∀ A, Bd X A -> Bd (rv (some w) - X) (uu * A) := by
  obtain ⟨sg, e, hsg⟩ := sum_num s t m n i j
  refine ⟨_, e, ?_⟩
  generalize hT : signed s m (i - min i j).toNat + signed t n (j - min i j).toNat = T at hsg
  have hE : T * 2 ^ (min i j + ((1074 : Nat) : Int)).toNat = signed s m (i + 1074).toNat + signed t n (j + 1074).toNat := by
    rw [<- hT, Int.add_mul, <- signed_add, <- signed_add]
    have e1 : (i - min i j).toNat + (min i j + ((1074 : Nat) : Int)).toNat = (i + 1074).toNat := by omega
    have e2 : (j - min i j).toNat + (min i j + ((1074 : Nat) : Int)).toNat = (j + 1074).toNat := by omega
    rw [e1, e2]
  have hs : signed sg T.natAbs (min i j + ((1074 : Nat) : Int)).toNat = signed s m (i + 1074).toNat + signed t n (j + 1074).toNat := by
    rw [<- hE]
    generalize (min i j + ((1074 : Nat) : Int)).toNat = q
    by_cases h0 : T = 0
    · subst h0; rw [Int.natAbs_zero, signed_zero, Int.zero_mul]
    · rw [hsg h0]
      unfold signed
      rw [Nat.shiftLeft_eq]
      have ec : ((T.natAbs * 2 ^ q : Nat) : Int) = (T.natAbs : Int) * 2 ^ q := by rw [Int.natCast_mul, Int.natCast_pow]; rfl
      rw [ec]
      by_cases hl : T < 0
      · rw [decide_eq_true hl, if_pos rfl, show ((T.natAbs : Nat) : Int) = -T by omega, Int.neg_mul, Int.neg_neg]
      · rw [decide_eq_false hl, if_neg (by decide), show ((T.natAbs : Nat) : Int) = T by omega]
  have ex : ((signed sg T.natAbs (min i j + ((1074 : Nat) : Int)).toNat : Int) : Rat) * Ue 1074 = X := by rw [hs, hX, Sp_eq]
  by_cases h0 : T.natAbs = 0
  · rw [h0, nearest_zero]
    obtain ⟨w1, w2⟩ := rv_word0 sg
    have e1 : X = 0 := by rw [<- ex, h0, signed_zero]; exact Rat.zero_mul _
    refine ⟨w1, fun A hA => ?_⟩
    rw [w2, e1]
    refine Bd_zero ?_
    have := hA.nonneg
    grind
  · rw [<- ex] at hb
    have hg := not_great h0 (by omega) hb
    obtain ⟨n1, n2⟩ := near_rat sg h0 (i := min i j) (by omega) (E := 1074) (by omega) (by omega)
    refine ⟨n1, fun A hA => ?_⟩
    rw [<- ex] at hA ⊢
    have h3 := n2 A hA
    rw [if_pos (by omega)] at h3
    obtain ⟨a1, a2⟩ := h3
    exact ⟨by grind, by grind⟩
theorem add_near {x y : Fl} (hx : finF x = true) (hy : finF y = true) (hb : Bd (rv x + rv y) Bg) : finF (fadd x y) = true /\ ∀ A, Bd (rv x + rv y) A -> Bd (rv (fadd x y) - (rv x + rv y)) (uu * A) := by
  obtain ⟨c, s, m, i, rfl, rc⟩ := finF_num hx
  obtain ⟨d, t, n, j, rfl, rd⟩ := finF_num hy
  have hX : rv (some c) + rv (some d) = ((signed s m (i + 1074).toNat + signed t n (j + 1074).toNat : Int) : Rat) * Ue Sp := by
    rw [rv_num rc, rv_num rd, Rat.intCast_add, Rat.add_mul]
  obtain ⟨w, h1, h2, h3⟩ := sum_near (place_ge rc) (place_ge rd) hX hb
  have e0 : fadd (some c) (some d) = some w := by
    show ((Ieee.double.read c).sum (Ieee.double.read d)).map Ieee.double.write = _
    rw [rc, rd]; exact h1
  rw [e0]
  exact ⟨h2, h3⟩
theorem sub_near {x y : Fl} (hx : finF x = true) (hy : finF y = true) (hb : Bd (rv x - rv y) Bg) : finF (fsub x y) = true /\ ∀ A, Bd (rv x - rv y) A -> Bd (rv (fsub x y) - (rv x - rv y)) (uu * A) := by
  obtain ⟨c, s, m, i, rfl, rc⟩ := finF_num hx
  obtain ⟨d, t, n, j, rfl, rd⟩ := finF_num hy
  have hX : rv (some c) - rv (some d) = ((signed s m (i + 1074).toNat + signed (!t) n (j + 1074).toNat : Int) : Rat) * Ue Sp := by
    rw [rv_num rc, rv_num rd, signed_not, Rat.intCast_add, Rat.intCast_neg, Rat.add_mul, Rat.neg_mul, <- Rat.sub_eq_add_neg]
  obtain ⟨w, h1, h2, h3⟩ := sum_near (place_ge rc) (place_ge rd) hX hb
  have e0 : fsub (some c) (some d) = some w := by
    show ((Ieee.double.read c).sum (Ieee.double.read d).opposite).map Ieee.double.write = _
    rw [rc, rd]; exact h1
  rw [e0]
  exact ⟨h2, h3⟩
end Go.Proofs.YtnfgnjciliapaaaGreatDoor
end
section
namespace Go.Proofs.YtnfgnjciliapaaaGreatDoor
open Go Go.Mach Ieee
set_option linter.unusedVariables false

theorem alg7 {P ay ax q A h y : Rat} (hay : 0 < ay) (h1 : Bd (P * ay - ax) (P * ay / 18014398509481984)) (hq : q * ay = ax) (hqA : q <= A) (hy : Bd (y - P) (uu * P + h)) (hP : 0 <= P) (hA : 0 <= A) : Bd (y - q) (2 * uu * A + h) := by
  subst hq
  obtain ⟨a1, a2⟩ := h1
  obtain ⟨b1, b2⟩ := hy
  have c1 : P - q <= P / 18014398509481984 := by
    rcases (Rat.le_total : P - q - P / 18014398509481984 <= 0 \/ 0 <= P - q - P / 18014398509481984) with h | h
    · grind
    · by_cases hz : P - q - P / 18014398509481984 = 0
      · grind
      · have := Rat.mul_pos (Rat.lt_of_le_of_ne h (fun e => hz e.symm)) hay
        grind
  have c2 : q - P <= P / 18014398509481984 := by
    rcases (Rat.le_total : q - P - P / 18014398509481984 <= 0 \/ 0 <= q - P - P / 18014398509481984) with h | h
    · grind
    · by_cases hz : q - P - P / 18014398509481984 = 0
      · grind
      · have := Rat.mul_pos (Rat.lt_of_le_of_ne h (fun e => hz e.symm)) hay
        grind
  constructor <;> grind
@[irreducible] def Gq : Nat := 2200
theorem Gq_eq : Gq = 2200 := by unfold Gq; rfl
end Go.Proofs.YtnfgnjciliapaaaGreatDoor
end
section
namespace Go.Proofs.YtnfgnjciliapaaaGreatDoor
open Go Go.Mach Ieee
set_option linter.unusedVariables false

theorem rootFrom_spec {n : Nat} : ∀ (todo root : Nat), root * root <= n -> n < (root + 2 ^ todo) * (root + 2 ^ todo) -> Datum.rootFrom n todo root * Datum.rootFrom n todo root <= n /\ n < (Datum.rootFrom n todo root + 1) * (Datum.rootFrom n todo root + 1)
  | 0, root, h1, h2 => ⟨h1, h2⟩
  | todo + 1, root, h1, h2 => by
    unfold Datum.rootFrom
    rw [Nat.shiftLeft_eq, Nat.one_mul]
    dsimp only
    by_cases h : (root + 2 ^ todo) * (root + 2 ^ todo) <= n
    · rw [if_pos h]
      refine rootFrom_spec todo _ h ?_
      have : root + 2 ^ todo + 2 ^ todo = root + 2 ^ (todo + 1) := by rw [Nat.pow_succ]; omega
      rw [this]; exact h2
    · rw [if_neg h]
      exact rootFrom_spec todo _ h1 (by omega)
end Go.Proofs.YtnfgnjciliapaaaGreatDoor
end
section
namespace Go.Proofs.YtnfgnjciliapaaaGreatDoor
open Go Go.Mach Ieee
set_option linter.unusedVariables false

theorem Bd.mul {a b A B : Rat} (h : Bd a A) (g : Bd b B) : Bd (a * b) (A * B) := by
  obtain ⟨h1, h2⟩ := h
  obtain ⟨h3, h4⟩ := g
  have h5 := Rat.mul_nonneg (by grind : 0 <= A - a) (by grind : 0 <= B + b)
  have h6 := Rat.mul_nonneg (by grind : 0 <= A + a) (by grind : 0 <= B - b)
  have h7 := Rat.mul_nonneg (by grind : 0 <= A - a) (by grind : 0 <= B - b)
  have h8 := Rat.mul_nonneg (by grind : 0 <= A + a) (by grind : 0 <= B + b)
  constructor <;> grind
theorem Bd.add {a b A B : Rat} (h : Bd a A) (g : Bd b B) : Bd (a + b) (A + B) := by
  obtain ⟨h1, h2⟩ := h
  obtain ⟨h3, h4⟩ := g
  constructor <;> grind
theorem Bd.sub {a b A B : Rat} (h : Bd a A) (g : Bd b B) : Bd (a - b) (A + B) := by
  obtain ⟨h1, h2⟩ := h
  obtain ⟨h3, h4⟩ := g
  constructor <;> grind
theorem Bd.mono {a A B : Rat} (h : Bd a A) (g : A <= B) : Bd a B := by
  obtain ⟨h1, h2⟩ := h
  constructor <;> grind
theorem Bd.neg {a A : Rat} (h : Bd a A) : Bd (-a) A := by
  obtain ⟨h1, h2⟩ := h
  constructor <;> grind
def Ap (x : Fl) (a e : Rat) : Prop := finF x = true /\ Bd (rv x - a) e
theorem Ap.self {x : Fl} (h : finF x = true) : Ap x (rv x) 0 := ⟨h, by unfold Bd; grind⟩
theorem Ap.mono {x : Fl} {a e f : Rat} (h : Ap x a e) (g : e <= f) : Ap x a f := ⟨h.1, h.2.mono g⟩
theorem Ap.bd {x : Fl} {a e A : Rat} (h : Ap x a e) (g : Bd a A) : Bd (rv x) (A + e) := by
  obtain ⟨-, h1, h2⟩ := h
  obtain ⟨h3, h4⟩ := g
  constructor <;> grind
theorem alg30 {p x y a b e f A B E : Rat} (hx : Bd (x - a) e) (hy : Bd (y - b) f) (ha : Bd a A) (hb : Bd b B) (hp : Bd (p - x * y) E) : Bd (p - a * b) (A * f + B * e + e * f + E) := by
  have h1 := ha.mul hy
  have h2 := hx.mul hb
  have h3 := hx.mul hy
  obtain ⟨a1, a2⟩ := h1
  obtain ⟨b1, b2⟩ := h2
  obtain ⟨c1, c2⟩ := h3
  obtain ⟨d1, d2⟩ := hp
  constructor <;> grind
theorem Ap.mul {x y : Fl} {a b e f A B h : Rat} (hx : Ap x a e) (hy : Ap y b f) (ha : Bd a A) (hb : Bd b B) (hbig : (A + e) * (B + f) <= Bg) (hh : 0 <= h) (hz : (A + e) * (B + f) = 0 \/ eta <= h) :
    Ap (fmul x y) (a * b) (A * f + B * e + e * f + (uu * ((A + e) * (B + f)) + h)) := by
  have g1 := (hx.bd ha).mul (hy.bd hb)
  obtain ⟨m1, m2, m3⟩ := mul_near hx.1 hy.1 (g1.mono hbig)
  refine ⟨m1, alg30 hx.2 hy.2 ha hb ?_⟩
  rcases hz with hz | hz
  · rw [hz] at g1 ⊢
    have h0 : rv x * rv y = 0 := by obtain ⟨c1, c2⟩ := g1; grind
    rw [m2 h0, h0]
    refine Bd_zero ?_
    grind
  · have := m3 _ g1
    refine this.mono ?_
    grind
theorem alg31 {p x y a b e f E : Rat} (hx : Bd (x - a) e) (hy : Bd (y - b) f) (hp : Bd (p - (x + y)) E) : Bd (p - (a + b)) (e + f + E) := by
  obtain ⟨a1, a2⟩ := hx
  obtain ⟨b1, b2⟩ := hy
  obtain ⟨d1, d2⟩ := hp
  constructor <;> grind
theorem alg32 {p x y a b e f E : Rat} (hx : Bd (x - a) e) (hy : Bd (y - b) f) (hp : Bd (p - (x - y)) E) : Bd (p - (a - b)) (e + f + E) := by
  obtain ⟨a1, a2⟩ := hx
  obtain ⟨b1, b2⟩ := hy
  obtain ⟨d1, d2⟩ := hp
  constructor <;> grind
theorem Ap.add {x y : Fl} {a b e f C : Rat} (hx : Ap x a e) (hy : Ap y b f) (hc : Bd (a + b) C) (hbig : C + e + f <= Bg) : Ap (fadd x y) (a + b) (e + f + uu * (C + e + f)) := by
  have g1 : Bd (rv x + rv y) (C + e + f) := by
    obtain ⟨-, a1, a2⟩ := hx
    obtain ⟨-, b1, b2⟩ := hy
    obtain ⟨c1, c2⟩ := hc
    constructor <;> grind
  obtain ⟨m1, m2⟩ := add_near hx.1 hy.1 (g1.mono hbig)
  exact ⟨m1, alg31 hx.2 hy.2 (m2 _ g1)⟩
theorem Ap.sub {x y : Fl} {a b e f C : Rat} (hx : Ap x a e) (hy : Ap y b f) (hc : Bd (a - b) C) (hbig : C + e + f <= Bg) : Ap (fsub x y) (a - b) (e + f + uu * (C + e + f)) := by
  have g1 : Bd (rv x - rv y) (C + e + f) := by
    obtain ⟨-, a1, a2⟩ := hx
    obtain ⟨-, b1, b2⟩ := hy
    obtain ⟨c1, c2⟩ := hc
    constructor <;> grind
  obtain ⟨m1, m2⟩ := sub_near hx.1 hy.1 (g1.mono hbig)
  exact ⟨m1, alg32 hx.2 hy.2 (m2 _ g1)⟩
@[irreducible] def tS : Rat := Ue 400
@[irreducible] def tG : Rat := 2 ^ 400
theorem tS_pos : 0 < tS := by unfold tS; exact Ue_pos _
theorem tG_pos : 0 < tG := by unfold tG; exact two_pos _
theorem eta_small : eta * 1267650600228229401496703205376 <= tS * uu := by
  unfold eta tS
  rw [Sp_eq]
  have h1 : Ue (1074 + 1) <= Ue (400 + (100 + 53)) := Ue_le (by decide)
  have h2 := Ue_mul 100
  have h3 := Ue_mul 53
  have h4 : (2 : Rat) ^ 100 = 1267650600228229401496703205376 := by decide +kernel
  have h5 : (2 : Rat) ^ 53 = 9007199254740992 := by decide +kernel
  rw [Ue_add 400, Ue_add 100 53] at h1
  rw [h4] at h2
  rw [h5] at h3
  generalize Ue (1074 + 1) = e at *
  generalize Ue 400 = t at *
  generalize Ue 100 = x at *
  generalize Ue 53 = y at *
  have hy : y = uu := by grind
  have : t * (x * y) * 1267650600228229401496703205376 = t * y := by
    have : t * (x * y) * 1267650600228229401496703205376 = t * y * (1267650600228229401496703205376 * x) := by grind
    rw [this, h2, Rat.mul_one]
  rw [<- hy, <- this]
  generalize t * (x * y) = q at *
  grind
theorem one_le_pow (n : Nat) : (1 : Rat) <= 2 ^ n := by
  have : ((1 : Nat) : Rat) <= ((2 ^ n : Nat) : Rat) := Rat.natCast_le_natCast.2 (Nat.one_le_two_pow)
  rwa [Rat.natCast_pow] at this
theorem big_ok {c : Rat} (h : c <= 1267650600228229401496703205376) : c * tG <= Bg := by
  unfold tG Bg
  have h1 := two_pos 400
  have h2 : (2 : Rat) ^ 900 = 2 ^ 400 * (2 ^ 400 * 2 ^ 100) := by rw [<- pow_addR, <- pow_addR]
  have h4 : (2 : Rat) ^ 100 = 1267650600228229401496703205376 := by decide +kernel
  have h5 : (1 : Rat) <= 2 ^ 400 := one_le_pow 400
  rw [h2, h4]
  generalize (2 : Rat) ^ 400 = g at *
  have a1 := Rat.mul_nonneg (by grind : 0 <= 1267650600228229401496703205376 - c) (by grind : 0 <= g)
  have a2 := Rat.mul_nonneg (by grind : 0 <= g) (by grind : 0 <= g - 1)
  grind
end Go.Proofs.YtnfgnjciliapaaaGreatDoor
end
section
namespace Go.Proofs.YtnfgnjciliapaaaGreatDoor
open Go Go.Mach Ieee
set_option linter.unusedVariables false

abbrev kap : Rat := 1001 / 1000
def Room (M : Rat) : Prop := 0 <= M /\ (M = 0 \/ eta <= uu * M / 1000) /\ M * 1000 <= Bg
theorem prod_near {b s : Fl} {β S A e M E : Rat} (hR : Room M) (hb : Ap b β 0) (hβ : Bd β kap) (hs : Ap s S e) (hS : Bd S A) (hA : A <= 20 * M) (he0 : 0 <= e) (he : e <= M) (hE : kap * e + (uu * (kap * (A + e)) + uu * M / 1000) <= E) : Ap (fmul b s) (β * S) E := by
  obtain ⟨h0, h1, h2⟩ := hR
  have hA0 := hS.nonneg
  have hbig : (kap + 0) * (A + e) <= Bg := by grind
  have hh : 0 <= uu * M / 1000 := by grind
  have hz : (kap + 0) * (A + e) = 0 \/ eta <= uu * M / 1000 := by
    rcases h1 with h | h
    · left
      have a0 : A = 0 := by grind
      have e0 : e = 0 := by grind
      rw [a0, e0]; grind
    · right; exact h
  refine (Ap.mul hb hs hβ hS hbig hh hz).mono ?_
  grind
theorem crs_near {b c s t : Fl} {β γ S T A e M E : Rat} (hR : Room M) (hb : Ap b β 0) (hβ : Bd β kap) (hc : Ap c γ 0) (hγ : Bd γ kap) (hs : Ap s S e) (hS : Bd S A) (ht : Ap t T e) (hT : Bd T A) (hA : A <= 20 * M) (he0 : 0 <= e) (he : e <= M)
    (hE : 2 * (kap * e + (uu * (kap * (A + e)) + uu * M / 1000)) + uu * (2 * kap * A + 2 * (kap * e + (uu * (kap * (A + e)) + uu * M / 1000))) <= E) : Ap (fsub (fmul b s) (fmul c t)) (β * S - γ * T) E /\ Bd (β * S - γ * T) (2 * kap * A) := by
  have p1 := prod_near hR hb hβ hs hS hA he0 he Rat.le_refl
  have p2 := prod_near hR hc hγ ht hT hA he0 he Rat.le_refl
  have hA0 := hS.nonneg
  obtain ⟨h0, h1, h2⟩ := hR
  have hbd : Bd (β * S - γ * T) (2 * kap * A) := ((hβ.mul hS).sub (hγ.mul hT)).mono (by grind)
  refine ⟨(Ap.sub p1 p2 hbd ?_).mono ?_, hbd⟩
  · grind
  · grind
theorem two_Ap : Ap (some 4611686018427387904) 2 0 := by
  have h : Ieee.double.read 4611686018427387904 = .number false 4503599627370496 (-51) := by decide
  refine ⟨finF_of h, ?_⟩
  rw [rv_num h, signed_cast, if_neg (by decide)]
  generalize hA : ((-51 : Int) + 1074).toNat = a
  have hS : Sp = a + 51 := by rw [Sp_eq, <- hA]; decide
  rw [hS, Rat.natCast_mul, Rat.natCast_pow, Ue_add]
  have h1 : ((2 : Nat) : Rat) ^ a * (Ue a * Ue 51) = Ue 51 := by
    have h3 : ((2 : Nat) : Rat) ^ a * Ue a = 1 := Ue_mul a
    rw [<- Rat.mul_assoc, h3, Rat.one_mul]
  rw [Rat.mul_assoc, h1]
  have h4 := Ue_mul 51
  have h5 : (2 : Rat) ^ 51 = 2251799813685248 := by decide +kernel
  rw [h5] at h4
  have h6 : ((4503599627370496 : Nat) : Rat) = 2 * 2251799813685248 := by decide +kernel
  rw [h6, Rat.mul_assoc, h4]
  unfold Bd; grind
theorem dbl_near {s : Fl} {S A e M E : Rat} (hR : Room M) (hs : Ap s S e) (hS : Bd S A) (hA : A <= 20 * M) (he0 : 0 <= e) (he : e <= M) (hE : 2 * e + (uu * ((A + e) * 2) + uu * M / 1000) <= E) : Ap (fmul s (some 4611686018427387904)) (S * 2) E /\ Bd (S * 2) (A * 2) := by
  obtain ⟨h0, h1, h2⟩ := hR
  have hA0 := hS.nonneg
  have h22 : Bd (2 : Rat) 2 := by unfold Bd; grind
  have hbig : (A + e) * (2 + 0) <= Bg := by grind
  have hh : 0 <= uu * M / 1000 := by grind
  have hz : (A + e) * (2 + 0) = 0 \/ eta <= uu * M / 1000 := by
    rcases h1 with h | h
    · left
      have a0 : A = 0 := by grind
      have e0 : e = 0 := by grind
      rw [a0, e0]; grind
    · right; exact h
  refine ⟨(Ap.mul hs two_Ap hS h22 hbig hh hz).mono ?_, hS.mul h22⟩
  grind
theorem turn1_near {w y z p C0 C1 C2 : Fl} {M c0 c1 c2 : Rat} (hR : Room M) (hw : finF w = true) (hw1 : Bd (rv w) kap) (hy : finF y = true) (hy1 : Bd (rv y) kap) (hz : finF z = true) (hz1 : Bd (rv z) kap) (hp : finF p = true) (hp1 : Bd (rv p) M)
    (h0 : Ap C0 c0 (401 / 100 * uu * M)) (h1 : Ap C1 c1 (401 / 100 * uu * M)) (h2 : Ap C2 c2 (401 / 100 * uu * M)) (b0 : Bd c0 (2 * kap * M)) (b1 : Bd c1 (2 * kap * M)) (b2 : Bd c2 (2 * kap * M)) :
    Ap (fadd (fadd p (fmul w (fmul C0 (some 4611686018427387904)))) (fsub (fmul y (fmul C2 (some 4611686018427387904))) (fmul z (fmul C1 (some 4611686018427387904))))) (rv p + rv w * (c0 * 2) + (rv y * (c2 * 2) - rv z * (c1 * 2))) (75 * uu * M) := by
  have hM := hR.1
  have hB := hR.2.2
  obtain ⟨d0, e0⟩ := dbl_near (E := 1203 / 100 * uu * M) hR h0 b0 (by grind) (by grind) (by grind) (by grind)
  obtain ⟨d1, e1⟩ := dbl_near (E := 1203 / 100 * uu * M) hR h1 b1 (by grind) (by grind) (by grind) (by grind)
  obtain ⟨d2, e2⟩ := dbl_near (E := 1203 / 100 * uu * M) hR h2 b2 (by grind) (by grind) (by grind) (by grind)
  obtain ⟨u1, u2⟩ := crs_near (E := 4015 / 100 * uu * M) hR (Ap.self hy) hy1 (Ap.self hz) hz1 d2 e2 d1 e1 (by grind) (by grind) (by grind) (by grind)
  have t1 := prod_near (E := 1607 / 100 * uu * M) hR (Ap.self hw) hw1 d0 e0 (by grind) (by grind) (by grind) (by grind)
  have t2 := hw1.mul e0
  have s1 := Ap.add (Ap.self hp) t1 (hp1.add t2) (by grind)
  have s2 := Ap.add s1 u1 ((hp1.add t2).add u2) (by grind)
  exact s2.mono (by grind)
theorem turn_near {w x y z p q r : Fl} {M : Rat} (hR : Room M) (hw : finF w = true) (hw1 : Bd (rv w) kap) (hx : finF x = true) (hx1 : Bd (rv x) kap) (hy : finF y = true) (hy1 : Bd (rv y) kap) (hz : finF z = true) (hz1 : Bd (rv z) kap)
    (hp : finF p = true) (hp1 : Bd (rv p) M) (hq : finF q = true) (hq1 : Bd (rv q) M) (hr : finF r = true) (hr1 : Bd (rv r) M) :
    (Ap (fsub (fmul y r) (fmul z q)) (rv y * rv r - rv z * rv q) (401 / 100 * uu * M) /\ Bd (rv y * rv r - rv z * rv q) (2 * kap * M)) /\
    (Ap (fsub (fmul z p) (fmul x r)) (rv z * rv p - rv x * rv r) (401 / 100 * uu * M) /\ Bd (rv z * rv p - rv x * rv r) (2 * kap * M)) /\
    (Ap (fsub (fmul x q) (fmul y p)) (rv x * rv q - rv y * rv p) (401 / 100 * uu * M) /\ Bd (rv x * rv q - rv y * rv p) (2 * kap * M)) := by
  have hM := hR.1
  exact ⟨crs_near hR (Ap.self hy) hy1 (Ap.self hz) hz1 (Ap.self hr) hr1 (Ap.self hq) hq1 (by grind) (by grind) (by grind) (by grind),
    crs_near hR (Ap.self hz) hz1 (Ap.self hx) hx1 (Ap.self hp) hp1 (Ap.self hr) hr1 (by grind) (by grind) (by grind) (by grind),
    crs_near hR (Ap.self hx) hx1 (Ap.self hy) hy1 (Ap.self hq) hq1 (Ap.self hp) hp1 (by grind) (by grind) (by grind) (by grind)⟩

theorem turn_exact (w x y z p q r c0 c1 c2 : Rat) (h0 : c0 = y * r - z * q) (h1 : c1 = z * p - x * r) (h2 : c2 = x * q - y * p) :
    (p + w * (c0 * 2) + (y * (c2 * 2) - z * (c1 * 2))) * (p + w * (c0 * 2) + (y * (c2 * 2) - z * (c1 * 2))) + (q + w * (c1 * 2) + (z * (c0 * 2) - x * (c2 * 2))) * (q + w * (c1 * 2) + (z * (c0 * 2) - x * (c2 * 2))) + (r + w * (c2 * 2) + (x * (c1 * 2) - y * (c0 * 2))) * (r + w * (c2 * 2) + (x * (c1 * 2) - y * (c0 * 2))) =
    (p * p + q * q + r * r) + 4 * (c0 * c0 + c1 * c1 + c2 * c2) * ((w * w + x * x + y * y + z * z) - 1) := by
  have a1 : p * c0 + q * c1 + r * c2 = 0 := by subst h0 h1 h2; grind
  have a2 : x * c0 + y * c1 + z * c2 = 0 := by subst h0 h1 h2; grind
  have a3 : p * (y * c2 - z * c1) + q * (z * c0 - x * c2) + r * (x * c1 - y * c0) = -(c0 * c0 + c1 * c1 + c2 * c2) := by
    subst h0 h1 h2; grind
  have a4 : (y * c2 - z * c1) * (y * c2 - z * c1) + (z * c0 - x * c2) * (z * c0 - x * c2) + (x * c1 - y * c0) * (x * c1 - y * c0) = (x * x + y * y + z * z) * (c0 * c0 + c1 * c1 + c2 * c2) - (x * c0 + y * c1 + z * c2) * (x * c0 + y * c1 + z * c2) := by grind
  rw [a2] at a4
  have a5 : c0 * (y * c2 - z * c1) + c1 * (z * c0 - x * c2) + c2 * (x * c1 - y * c0) = 0 := by grind
  clear h0 h1 h2
  generalize hu : y * c2 - z * c1 = u at *
  generalize hv : z * c0 - x * c2 = v at *
  generalize ht : x * c1 - y * c0 = t at *
  have b1 : y * (c2 * 2) - z * (c1 * 2) = 2 * u := by grind
  have b2 : z * (c0 * 2) - x * (c2 * 2) = 2 * v := by grind
  have b3 : x * (c1 * 2) - y * (c0 * 2) = 2 * t := by grind
  rw [b1, b2, b3]
  clear hu hv ht b1 b2 b3
  grind
theorem cross_le (x y z p q r : Rat) : (y * r - z * q) * (y * r - z * q) + (z * p - x * r) * (z * p - x * r) + (x * q - y * p) * (x * q - y * p) = (x * x + y * y + z * z) * (p * p + q * q + r * r) - (x * p + y * q + z * r) * (x * p + y * q + z * r) := by grind
end Go.Proofs.YtnfgnjciliapaaaGreatDoor
end
section
namespace Go.Proofs.YtnfgnjciliapaaaGreatDoor
open Go Go.Mach Ieee
set_option linter.unusedVariables false

theorem sq_nonneg (a : Rat) : 0 <= a * a := by
  rcases (Rat.le_total : a <= 0 \/ 0 <= a) with h | h
  · have := Rat.mul_nonneg (by grind : 0 <= -a) (by grind : 0 <= -a); grind
  · exact Rat.mul_nonneg h h
theorem Bd.sq {d D : Rat} (h : Bd d D) : d * d <= D * D := (h.mul h).2
theorem sq_near {W w D : Rat} (h : Bd (w - W) D) : Bd (w * w - W * W) (1 / 70368744177664 * (W * W) + 70368744177665 * (D * D)) := by
  have h1 := sq_nonneg (W * (1 / 70368744177664) - (w - W))
  have h2 := sq_nonneg (W * (1 / 70368744177664) + (w - W))
  have h3 := h.sq
  have h4 := sq_nonneg (w - W)
  generalize D * D = DD at *
  constructor <;> grind
theorem len_near {S C g W0 W1 W2 w0 w1 w2 M : Rat} (hM : M * M <= S) (hM0 : 0 <= M) (hW : W0 * W0 + W1 * W1 + W2 * W2 = S + 4 * C * g) (hC0 : 0 <= C) (hC : C <= S + 1 / 281474976710656 * S) (hg : Bd g (1 / 281474976710656))
    (h0 : Bd (w0 - W0) (75 * uu * M)) (h1 : Bd (w1 - W1) (75 * uu * M)) (h2 : Bd (w2 - W2) (75 * uu * M)) : Bd (w0 * w0 + w1 * w1 + w2 * w2 - S) (400 * uu * S) := by
  have a0 := sq_near h0
  have a1 := sq_near h1
  have a2 := sq_near h2
  have hCg : Bd (C * g) (C * (1 / 281474976710656)) := Bd.mul (by unfold Bd; grind) hg
  have hMM := sq_nonneg M
  have e : 75 * uu * M * (75 * uu * M) = 75 * uu * (75 * uu) * (M * M) := by grind
  rw [e] at a0 a1 a2
  have e2 : 4 * C * g = 4 * (C * g) := by grind
  rw [e2] at hW
  obtain ⟨c1, c2⟩ := hCg
  obtain ⟨b0, b1⟩ := a0
  obtain ⟨b2, b3⟩ := a1
  obtain ⟨b4, b5⟩ := a2
  generalize C * g = G at *
  generalize M * M = MM at *
  generalize W0 * W0 = A0 at *
  generalize W1 * W1 = A1 at *
  generalize W2 * W2 = A2 at *
  generalize w0 * w0 = B0 at *
  generalize w1 * w1 = B1 at *
  generalize w2 * w2 = B2 at *
  constructor <;> grind
theorem len_fin {S T : Rat} (h0 : 0 <= S) (h : Bd (T - S) (400 * uu * S)) : S * (17592186044415 / 17592186044416) * (17592186044415 / 17592186044416) <= T /\ T <= S * (17592186044417 / 17592186044416) * (17592186044417 / 17592186044416) := by
  obtain ⟨h1, h2⟩ := h
  constructor <;> grind
theorem unit_bd {a R g : Rat} (hR : 0 <= R) (h : a * a + R - 1 = g) (hg : Bd g (1 / 281474976710656)) : Bd a kap := by
  obtain ⟨h1, h2⟩ := hg
  have key : ∀ b : Rat, 0 <= b -> b * b <= 1 + 1 / 281474976710656 -> b <= kap := by
    intro b hb hbb
    rcases (Rat.le_total : b <= kap \/ kap <= b) with h | h
    · exact h
    · have := Rat.mul_nonneg (by grind : 0 <= b - kap) (by grind : 0 <= b + kap)
      grind
  rcases (Rat.le_total : a <= 0 \/ 0 <= a) with h3 | h3
  · have := key (-a) (by grind) (by grind)
    constructor <;> grind
  · have := key a h3 (by grind)
    constructor <;> grind
theorem three_max (a b c : Rat) : ∃ M, 0 <= M /\ Bd a M /\ Bd b M /\ Bd c M /\ M * M <= a * a + b * b + c * c /\ (M = a \/ M = -a \/ M = b \/ M = -b \/ M = c \/ M = -c) := by
  have sa := sq_nonneg a
  have sb := sq_nonneg b
  have sc := sq_nonneg c
  have ab : ∀ x : Rat, ∃ y, 0 <= y /\ Bd x y /\ y * y = x * x /\ (y = x \/ y = -x) := by
    intro x
    rcases (Rat.le_total : x <= 0 \/ 0 <= x) with h | h
    · exact ⟨-x, by grind, by unfold Bd; grind, by grind, .inr rfl⟩
    · exact ⟨x, h, by unfold Bd; grind, rfl, .inl rfl⟩
  obtain ⟨x, x0, x1, x2, x3⟩ := ab a
  obtain ⟨y, y0, y1, y2, y3⟩ := ab b
  obtain ⟨z, z0, z1, z2, z3⟩ := ab c
  rcases (Rat.le_total : x <= y \/ y <= x) with h1 | h1 <;> rcases (Rat.le_total : y <= z \/ z <= y) with h2 | h2 <;> rcases (Rat.le_total : x <= z \/ z <= x) with h3 | h3
  all_goals first
    | exact ⟨x, x0, x1, y1.mono (by grind), z1.mono (by grind), by grind, by grind⟩
    | exact ⟨y, y0, x1.mono (by grind), y1, z1.mono (by grind), by grind, by grind⟩
    | exact ⟨z, z0, x1.mono (by grind), y1.mono (by grind), z1, by grind, by grind⟩
def Tm (a : Rat) : Prop := a = 0 \/ (tS <= a /\ a <= tG) \/ (tS <= -a /\ -a <= tG)
theorem room_alg {M t g B e : Rat} (h1 : e * 1267650600228229401496703205376 <= t * uu) (h2 : 0 < e) (h3 : 1000 * g <= B) (hp : M = 0 \/ (t <= M /\ M <= g)) (hg : 0 < g := by exact tG_pos) : (M = 0 \/ e <= uu * M / 1000) /\ M * 1000 <= B := by
  rcases hp with h | ⟨h, h'⟩
  · refine ⟨.inl h, ?_⟩
    rw [h]; grind
  · refine ⟨.inr ?_, by grind⟩
    grind
theorem neg_no {M t x : Rat} (h : 0 < t) (hM : 0 <= M) (k : M = -x) : ¬ t <= x := by grind
theorem neg_no' {M t x : Rat} (h : 0 < t) (hM : 0 <= M) (k : M = x) : ¬ t <= -x := by grind
theorem Tm.room {a b c M : Rat} (ha : Tm a) (hb : Tm b) (hc : Tm c) (hM0 : 0 <= M) (h : M = a \/ M = -a \/ M = b \/ M = -b \/ M = c \/ M = -c) : Room M := by
  have key : ∀ x : Rat, Tm x -> (M = x \/ M = -x) -> Room M := by
    intro x hx hMx
    have hp : M = 0 \/ (tS <= M /\ M <= tG) := by
      rcases hx with h | h | h <;> rcases hMx with k | k
      · left; rw [k, h]
      · left; rw [k, h]; rfl
      · right; rw [k]; exact h
      · exact absurd h.1 (neg_no tS_pos hM0 k)
      · exact absurd h.1 (neg_no' tS_pos hM0 k)
      · right; rw [k]; exact h
    exact ⟨hM0, room_alg eta_small eta_pos (big_ok (c := 1000) (by grind)) hp⟩
  rcases h with h | h | h | h | h | h
  · exact key a ha (.inl h)
  · exact key a ha (.inr h)
  · exact key b hb (.inl h)
  · exact key b hb (.inr h)
  · exact key c hc (.inl h)
  · exact key c hc (.inr h)
end Go.Proofs.YtnfgnjciliapaaaGreatDoor
end
section
namespace Go.Proofs.YtnfgnjciliapaaaGreatDoor
open Go Go.Mach Ieee
set_option linter.unusedVariables false

theorem fle_vl {x y : Fl} (hx : finF x = true) (hy : finF y = true) : fle x y = decide (vl x <= vl y) := by
  unfold fle
  rw [ford_vl hx hy, Bool.eq_iff_iff, decide_eq_true_iff, Bool.or_eq_true, beq_iff_eq, beq_iff_eq, Option.some.injEq, Option.some.injEq, Int.compare_eq_eq, Int.compare_eq_lt]
  omega
theorem rv_le {x y : Fl} : vl x <= vl y ↔ rv x <= rv y := by
  unfold rv
  have h := Ue_pos Sp
  constructor
  · intro g
    have g2 := Rat.intCast_le_intCast.2 g
    have := Rat.mul_nonneg ((Rat.le_iff_sub_nonneg _ _).1 g2) (Rat.le_of_lt h)
    generalize ((vl x : Int) : Rat) = a at *
    generalize ((vl y : Int) : Rat) = b at *
    generalize Ue Sp = u at *
    grind
  · intro g
    rcases (by omega : vl y < vl x \/ vl x <= vl y) with k | k
    · have g2 := Rat.intCast_lt_intCast.2 k
      have := Rat.mul_pos ((Rat.lt_iff_sub_pos _ _).1 g2) h
      generalize ((vl x : Int) : Rat) = a at *
      generalize ((vl y : Int) : Rat) = b at *
      generalize Ue Sp = u at *
      grind
    · exact k
theorem rv_eq {x y : Fl} : vl x = vl y ↔ rv x = rv y := by
  have h1 := @rv_le x y
  have h2 := @rv_le y x
  constructor
  · intro h; exact Rat.le_antisymm (h1.1 (by omega)) (h2.1 (by omega))
  · intro h
    have := h1.2 (by rw [h]; exact Rat.le_refl)
    have := h2.2 (by rw [h]; exact Rat.le_refl)
    omega
theorem rv_zero : finF (some 0) = true /\ rv (some 0) = 0 := rv_word0 false
theorem fge_rv {x y : Fl} (hx : finF x = true) (hy : finF y = true) : fge x y = true ↔ rv y <= rv x := by rw [fge_vl hx hy, decide_eq_true_iff, rv_le]
theorem fle_rv {x y : Fl} (hx : finF x = true) (hy : finF y = true) : fle x y = true ↔ rv x <= rv y := by rw [fle_vl hx hy, decide_eq_true_iff, rv_le]
theorem feq_rv {x y : Fl} (hx : finF x = true) (hy : finF y = true) : feq x y = true ↔ rv x = rv y := by rw [feq_vl hx hy, decide_eq_true_iff, rv_eq]
theorem rv_pow {b : Nat} {i : Int} (h : Ieee.double.read b = .number false 4503599627370496 i) {n : Nat} (hi : (i + 1074).toNat + 52 + n = 1074 ) : finF (some b) = true /\ rv (some b) = Ue n := by
  refine ⟨finF_of h, ?_⟩
  rw [rv_num h, signed_cast, if_neg (by decide), Rat.natCast_mul, Rat.natCast_pow]
  generalize (i + 1074).toNat = a at *
  have hS : Sp = (a + 52) + n := by rw [Sp_eq]; omega
  rw [hS, Ue_add, Ue_add]
  have h1 : ((2 : Nat) : Rat) ^ a * Ue a = 1 := Ue_mul a
  have h2 : (2 : Rat) ^ 52 * Ue 52 = 1 := Ue_mul 52
  have h3 : ((4503599627370496 : Nat) : Rat) = (2 : Rat) ^ 52 := by decide +kernel
  rw [h3]
  generalize ((2 : Nat) : Rat) ^ a = p at *
  generalize (2 : Rat) ^ 52 = q at *
  generalize Ue a = r at *
  generalize Ue 52 = s at *
  have : q * p * (r * s * Ue n) = (p * r) * (q * s) * Ue n := by grind
  rw [this, h1, h2, Rat.one_mul, Rat.one_mul]
theorem rv_powG {b : Nat} {i : Int} (h : Ieee.double.read b = .number false 4503599627370496 i) {n : Nat} (hi : (i + 1074).toNat + 52 = n + 1074) : finF (some b) = true /\ rv (some b) = 2 ^ n := by
  refine ⟨finF_of h, ?_⟩
  rw [rv_num h, signed_cast, if_neg (by decide), Rat.natCast_mul, Rat.natCast_pow]
  have h3 : ((4503599627370496 : Nat) : Rat) = (2 : Rat) ^ 52 := by decide +kernel
  rw [h3]
  generalize (i + 1074).toNat = a at *
  rw [<- Sp_eq] at hi
  have h5 : (2 : Rat) ^ 52 * ((2 : Nat) : Rat) ^ a = 2 ^ (n + Sp) := by
    rw [<- hi, Nat.add_comm, pow_addR]; rfl
  rw [h5, pow_addR, Rat.mul_assoc, Ue_mul, Rat.mul_one]
abbrev cS : Fl := some 2805742567851819008
abbrev cG : Fl := some 6408622269748215808
theorem cS_val : finF cS = true /\ rv cS = tS := by
  have h : Ieee.double.read 2805742567851819008 = .number false 4503599627370496 (-452) := by decide
  have := rv_pow h (n := 400) (by decide)
  unfold tS; exact this
theorem cG_val : finF cG = true /\ rv cG = tG := by
  have h : Ieee.double.read 6408622269748215808 = .number false 4503599627370496 348 := by decide
  have := rv_powG h (n := 400) (by decide)
  unfold tG; exact this
def tameB (x : Fl) : Bool := feq x (some 0) || (fge (absF x) cS && fle (absF x) cG)
theorem num_between {x y z : Fl} (hy : finF y = true) (hz : finF z = true) (h1 : fge x y = true) (h2 : fle x z = true) : finF x = true := by
  obtain ⟨b, s, m, i, rfl, hb⟩ := finF_num hy
  obtain ⟨c, t, n, j, rfl, hc⟩ := finF_num hz
  cases x with
  | none => exact absurd h1 Bool.false_ne_true
  | some a =>
    have f1 : ford (some a) (some b) = (Ieee.double.read a).order (.number s m i) := by show (Ieee.double.read a).order (Ieee.double.read b) = _; rw [hb]
    have f2 : ford (some a) (some c) = (Ieee.double.read a).order (.number t n j) := by show (Ieee.double.read a).order (Ieee.double.read c) = _; rw [hc]
    unfold fge at h1
    unfold fle at h2
    rw [f1] at h1
    rw [f2] at h2
    cases hr : Ieee.double.read a with
    | number s' m' i' => exact finF_of hr
    | nan s' f => rw [hr] at h1; exact absurd h1 (by simp [Datum.order])
    | infinity s' =>
      rw [hr] at h1 h2
      cases s'
      · exact absurd h2 (by simp [Datum.order])
      · exact absurd h1 (by simp [Datum.order])
theorem feq_fin {x : Fl} (h : feq x (some 0) = true) : finF x = true := by
  cases x with
  | none => exact absurd h (by decide)
  | some a =>
    have f1 : ford (some a) (some 0) = (Ieee.double.read a).order (.number false 0 (-1074)) := by show (Ieee.double.read a).order (Ieee.double.read 0) = _; rw [read_zero]
    unfold feq at h
    rw [f1] at h
    cases hr : Ieee.double.read a with
    | number s' m' i' => exact finF_of hr
    | nan s' f => rw [hr] at h; exact absurd h (by simp [Datum.order])
    | infinity s' =>
      rw [hr] at h
      cases s'
      · exact absurd h (by simp [Datum.order])
      · exact absurd h (by simp [Datum.order])
theorem absF_back {x : Fl} (h : finF (absF x) = true) : finF x = true := by
  cases x with
  | none => exact absurd h (by decide)
  | some b =>
    have h' : finF (canon (b % 9223372036854775808)) = true := h
    unfold canon at h'
    cases hn : isNaN (b % 9223372036854775808) with
    | true => rw [hn] at h'; exact absurd h' Bool.false_ne_true
    | false =>
      rw [hn, cond_false, finF_iff] at h'
      rw [finF_iff]
      have := of_decide_eq_true h'
      exact decide_eq_true (by omega)
theorem rv_abs {x : Fl} (hx : finF x = true) (hw : FW x) : rv (absF x) = rv x \/ rv (absF x) = -(rv x) := by
  obtain ⟨b, s, m, i, rfl, h⟩ := finF_num hx
  unfold rv
  rw [vl_abs hx hw rfl h, vl_num h, signed_cast, Rat.intCast_natCast]
  cases s
  · left; rfl
  · right
    rw [if_pos rfl, Rat.neg_mul, Rat.neg_neg]
theorem tame_ok {x : Fl} (hw : FW x) (h : tameB x = true) : finF x = true /\ Tm (rv x) := by
  unfold tameB at h
  rw [Bool.or_eq_true, Bool.and_eq_true] at h
  rcases h with h | ⟨h1, h2⟩
  · have hf := feq_fin h
    refine ⟨hf, .inl ?_⟩
    have := (feq_rv hf rv_zero.1).1 h
    rw [rv_zero.2] at this
    exact this
  · have hf := num_between cS_val.1 cG_val.1 h1 h2
    have hx := absF_back hf
    have g1 := (fge_rv hf cS_val.1).1 h1
    have g2 := (fle_rv hf cG_val.1).1 h2
    rw [cS_val.2] at g1
    rw [cG_val.2] at g2
    refine ⟨hx, ?_⟩
    rcases rv_abs hx hw with e | e
    · rw [e] at g1 g2; exact .inr (.inl ⟨g1, g2⟩)
    · rw [e] at g1 g2; exact .inr (.inr ⟨g1, g2⟩)
end Go.Proofs.YtnfgnjciliapaaaGreatDoor
end
