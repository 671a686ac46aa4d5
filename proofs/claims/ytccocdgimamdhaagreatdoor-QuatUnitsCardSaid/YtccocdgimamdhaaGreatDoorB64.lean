/-
  PURE: numbers as words to the base 2^64 (printed by gen64.py from the laws to the base 2^32).
  Conditions: none.
-/
import Derived.Test.YtccocdgimamdhaaGreatDoorE1
namespace Go.Proofs.YtccocdgimamdhaaGreatDoor
open Go Go.Mach
set_option linter.unusedVariables false

def mvalq : List Int -> Nat
  | [] => 0
  | x :: r => x.toNat + 18446744073709551616 * mvalq r
def InWq (m : List Int) : Prop := ∀ x ∈ m, 0 <= x /\ x < 18446744073709551616
def digsq (n : Nat) : List Int := if h : n = 0 then [] else ((n % 18446744073709551616 : Nat) : Int) :: digsq (n / 18446744073709551616)
termination_by n
decreasing_by omega
theorem digs_zeroq : digsq 0 = [] := by rw [digsq]; simp
theorem digs_posq {n : Nat} (h : n ≠ 0) : digsq n = ((n % 18446744073709551616 : Nat) : Int) :: digsq (n / 18446744073709551616) := by
  rw [digsq]; simp [h]
theorem digs_inWq : ∀ n, InWq (digsq n) := by
  intro n
  induction n using Nat.strongRecOn with
  | ind n ih =>
    by_cases h : n = 0
    · subst h; rw [digs_zeroq]; intro x hx; cases hx
    · rw [digs_posq h]
      intro x hx
      rcases List.mem_cons.1 hx with rfl | hx
      · omega
      · exact ih (n / 18446744073709551616) (by omega) x hx
theorem mval_digsq : ∀ n, mvalq (digsq n) = n := by
  intro n
  induction n using Nat.strongRecOn with
  | ind n ih =>
    by_cases h : n = 0
    · subst h; rw [digs_zeroq]; rfl
    · rw [digs_posq h, mvalq, ih (n / 18446744073709551616) (by omega), Int.toNat_natCast]
      omega
theorem mval_appendq (a b : List Int) : mvalq (a ++ b) = mvalq a + 18446744073709551616 ^ a.length * mvalq b := by
  induction a with
  | nil => simp [mvalq]
  | cons x r ih =>
    rw [List.cons_append, mvalq, ih, mvalq, List.length_cons, Nat.pow_succ, Nat.mul_add, Nat.mul_comm (18446744073709551616 ^ r.length) 18446744073709551616, Nat.mul_assoc]
    omega
theorem InWq.take {m : List Int} (h : InWq m) (n : Nat) : InWq (m.take n) := fun x hx => h x (List.mem_of_mem_take hx)
theorem InWq.drop {m : List Int} (h : InWq m) (n : Nat) : InWq (m.drop n) := fun x hx => h x (List.mem_of_mem_drop hx)
theorem InWq.cons {x : Int} {m : List Int} (h : InWq (x :: m)) : (0 <= x /\ x < 18446744073709551616) /\ InWq m := ⟨h x (by simp), fun y hy => h y (by simp [hy])⟩
theorem InWq.at {m : List Int} (h : InWq m) {i : Nat} : 0 <= m.getD i 0 /\ m.getD i 0 < 18446744073709551616 := by
  rw [List.getD_eq_getElem?_getD]
  by_cases hi : i < m.length
  · rw [List.getElem?_eq_getElem hi]; exact h _ (List.getElem_mem hi)
  · rw [List.getElem?_eq_none (by omega)]; exact ⟨by decide, by decide⟩
theorem mval_ltq : ∀ {m : List Int}, InWq m -> mvalq m < 18446744073709551616 ^ m.length
  | [], _ => by simp [mvalq]
  | x :: r, h => by
    have ih := mval_ltq h.cons.2
    have hx := h.cons.1
    rw [mvalq, List.length_cons, Nat.pow_succ]
    have : mvalq r + 1 <= 18446744073709551616 ^ r.length := ih
    have := Nat.mul_le_mul_right 18446744073709551616 this
    omega
theorem digs_mvalq : ∀ {m : List Int}, InWq m -> (∀ x, m.getLast? = some x -> x ≠ 0) -> digsq (mvalq m) = m
  | [], _, _ => digs_zeroq
  | [x], h, hl => by
    have hx := h.cons.1
    have h0 : x ≠ 0 := hl x rfl
    have e : mvalq [x] = x.toNat := by simp [mvalq]
    rw [e, digs_posq (by omega), Nat.div_eq_of_lt (by omega), digs_zeroq, Nat.mod_eq_of_lt (by omega), Int.toNat_of_nonneg hx.1]
  | x :: y :: r, h, hl => by
    have hx := h.cons.1
    have ih := digs_mvalq h.cons.2 (fun z hz => hl z (by rw [List.getLast?_cons_cons]; exact hz))
    have hne : mvalq (y :: r) ≠ 0 := by
      intro h0
      rw [h0, digs_zeroq] at ih; cases ih
    have e1 : mvalq (x :: y :: r) = x.toNat + 18446744073709551616 * mvalq (y :: r) := rfl
    rw [e1, digs_posq (by omega)]
    have e2 : (x.toNat + 18446744073709551616 * mvalq (y :: r)) % 18446744073709551616 = x.toNat := by omega
    have e3 : (x.toNat + 18446744073709551616 * mvalq (y :: r)) / 18446744073709551616 = mvalq (y :: r) := by omega
    rw [e2, e3, ih, Int.toNat_of_nonneg hx.1]
theorem mval_take_succq {m : List Int} {i : Nat} (hi : i < m.length) : mvalq (m.take (i + 1)) = mvalq (m.take i) + 18446744073709551616 ^ i * (m.getD i 0).toNat := by
  rw [List.take_succ_eq_append_getElem hi, mval_appendq, List.length_take, Nat.min_eq_left (by omega), List.getD_eq_getElem?_getD, List.getElem?_eq_getElem hi]
  simp [mvalq]
def dlq (S : Nat) : Nat -> List Int
  | 0 => []
  | n + 1 => dlq S n ++ [((S / 18446744073709551616 ^ n % 18446744073709551616 : Nat) : Int)]
theorem dl_lengthq (S : Nat) : ∀ n, (dlq S n).length = n
  | 0 => rfl
  | n + 1 => by simp [dlq, dl_lengthq S n]
theorem dl_inWq (S : Nat) : ∀ n, InWq (dlq S n)
  | 0 => fun x hx => by cases hx
  | n + 1 => fun x hx => by
    rcases List.mem_append.1 hx with h | h
    · exact dl_inWq S n x h
    · simp only [List.mem_singleton] at h
      subst h
      omega
theorem mval_dlq (S : Nat) : ∀ n, mvalq (dlq S n) = S % 18446744073709551616 ^ n
  | 0 => by simp [dlq, mvalq, Nat.mod_one]
  | n + 1 => by
    rw [dlq, mval_appendq, dl_lengthq, mval_dlq S n, Nat.pow_succ, Nat.mod_mul]
    simp only [mvalq, Int.toNat_natCast, Nat.mul_zero, Nat.add_zero]
theorem dl_setq (S n m : Nat) (h : n < m) : (dlq S n ++ List.replicate (m - n) 0).set n ((S / 18446744073709551616 ^ n % 18446744073709551616 : Nat) : Int) = dlq S (n + 1) ++ List.replicate (m - (n + 1)) 0 := by
  rw [List.set_append_right _ _ (by rw [dl_lengthq]; exact Nat.le_refl _), dl_lengthq, Nat.sub_self]
  have : m - n = (m - (n + 1)) + 1 := by omega
  rw [this, List.replicate_succ]
  simp [dlq]
theorem digs_dlq {S n : Nat} (h : S < 18446744073709551616 ^ n) : digsq (mvalq (dlq S n)) = digsq S := by rw [mval_dlq, Nat.mod_eq_of_lt h]


theorem mval_take_allq {m : List Int} (i : Nat) : mvalq (m.take (i + 1)) = mvalq (m.take i) + 18446744073709551616 ^ i * (m.getD i 0).toNat := by
  by_cases h : i < m.length
  · exact mval_take_succq h
  · rw [getD_zero_of (by omega), List.take_of_length_le (by omega), List.take_of_length_le (by omega)]; simp
theorem cutLen_mvalq (b : List Int) : ∀ n, mvalq (b.take (cutLen b n)) = mvalq (b.take n)
  | 0 => rfl
  | n + 1 => by
    unfold cutLen
    split
    · rename_i h
      rw [cutLen_mvalq b n, mval_take_allq, h]; simp
    · rfl
theorem take_cutLenq {b : List Int} (hb : InWq b) : b.take (cutLen b b.length) = digsq (mvalq b) := by
  have h1 := cutLen_mvalq b b.length
  rw [List.take_length] at h1
  rw [<- h1, digs_mvalq (hb.take _) (cutLen_last b b.length (Nat.le_refl _))]
theorem div_pow_addq (T A i : Nat) : (T + 18446744073709551616 ^ i * A) / 18446744073709551616 ^ i = T / 18446744073709551616 ^ i + A := Nat.add_mul_div_left _ _ (Nat.pow_pos (by decide))
theorem mval_splitq (m : List Int) (i : Nat) : mvalq m = mvalq (m.take i) + 18446744073709551616 ^ (m.take i).length * mvalq (m.drop i) := by
  rw [<- mval_appendq, List.take_append_drop]
theorem mval_split_geq (m : List Int) (i : Nat) : ∃ R, mvalq m = mvalq (m.take i) + 18446744073709551616 ^ i * R := by
  by_cases h : i <= m.length
  · refine ⟨mvalq (m.drop i), ?_⟩
    have := mval_splitq m i
    rwa [List.length_take, Nat.min_eq_left h] at this
  · exact ⟨0, by rw [List.take_of_length_le (by omega)]; simp⟩
theorem mval_take_ltq {m : List Int} (h : InWq m) (i : Nat) : mvalq (m.take i) < 18446744073709551616 ^ i := by
  have h1 := mval_ltq (h.take i)
  have h2 : (m.take i).length <= i := by simp; omega
  exact Nat.lt_of_lt_of_le h1 (Nat.pow_le_pow_right (by decide) h2)
theorem digit_ofq {S T R i : Nat} (h : S = T + 18446744073709551616 ^ (i + 1) * R) : S / 18446744073709551616 ^ i % 18446744073709551616 = T / 18446744073709551616 ^ i % 18446744073709551616 := by
  rw [h, Nat.pow_succ, Nat.mul_assoc, div_pow_addq, Nat.add_mul_mod_self_left]
theorem pow_pos32q (i : Nat) : 0 < 18446744073709551616 ^ i := Nat.pow_pos (by decide)
theorem diff_divq {P A B x y o R1 R2 D a b : Nat} (hA : A < P) (hB : B < P) (ho : o = if A < B then 1 else 0) (h1 : a = A + P * x + P * 18446744073709551616 * R1) (h2 : b = B + P * y + P * 18446744073709551616 * R2) (hD : (D : Int) = (a : Int) - (b : Int)) :
    ((D / P : Nat) : Int) = (x : Int) - (y : Int) - (o : Int) + 18446744073709551616 * ((R1 : Int) - (R2 : Int)) := by
  have he : ∃ e : Nat, e < P /\ (e : Int) = (A : Int) - (B : Int) + (P : Int) * (o : Int) := by
    rw [ho]
    split
    · exact ⟨A + P - B, by omega, by omega⟩
    · exact ⟨A - B, by omega, by omega⟩
  obtain ⟨e, he1, he2⟩ := he
  refine int_div_of (e := e) ?_ he1
  have e1 : (a : Int) = A + (P : Int) * x + 18446744073709551616 * ((P : Int) * R1) := by
    rw [h1, Nat.mul_assoc, Nat.mul_left_comm]; simp
  have e2 : (b : Int) = B + (P : Int) * y + 18446744073709551616 * ((P : Int) * R2) := by
    rw [h2, Nat.mul_assoc, Nat.mul_left_comm]; simp
  have e3 : (P : Int) * ((x : Int) - (y : Int) - (o : Int) + 18446744073709551616 * ((R1 : Int) - (R2 : Int))) = (P : Int) * x - (P : Int) * y - (P : Int) * o + (18446744073709551616 * ((P : Int) * R1) - 18446744073709551616 * ((P : Int) * R2)) := by
    rw [Int.mul_add, Int.mul_sub, Int.mul_sub, Int.mul_left_comm, Int.mul_sub, Int.mul_sub]
  rw [hD, e1, e2, e3, he2]
  omega
theorem digs_length_leq {x y : Nat} (h : x <= y) : (digsq x).length <= (digsq y).length := by
  induction y using Nat.strongRecOn generalizing x with
  | ind y ih =>
    by_cases hx : x = 0
    · subst hx; rw [digs_zeroq]; simp
    · rw [digs_posq hx, digs_posq (by omega : y ≠ 0)]
      simp only [List.length_cons]
      have := ih (y / 18446744073709551616) (by omega) (x := x / 18446744073709551616) (Nat.div_le_div_right h)
      omega
theorem dl_of_zeroq : ∀ (w X : Nat), dlq (18446744073709551616 ^ w * X) w = List.replicate w 0 := by
  intro w
  have key : ∀ n, n <= w -> ∀ X, dlq (18446744073709551616 ^ w * X) n = List.replicate n 0 := by
    intro n
    induction n with
    | zero => intro _ X; rfl
    | succ n ih =>
      intro hn X
      rw [dlq, ih (by omega), List.replicate_succ']
      have e : 18446744073709551616 ^ w * X = 18446744073709551616 ^ n * (18446744073709551616 * (18446744073709551616 ^ (w - n - 1) * X)) := by
        rw [<- Nat.mul_assoc, <- Nat.mul_assoc, <- Nat.pow_succ, <- Nat.pow_add]
        congr 2; omega
      rw [e, Nat.mul_div_cancel_left _ (pow_pos32q n), Nat.mul_mod_right]
      rfl
  exact key w (Nat.le_refl _)
theorem digs_len_leq : ∀ (j n : Nat), n < 18446744073709551616 ^ j -> (digsq n).length <= j
  | 0, n, h => by
    have : n = 0 := by simp at h; exact h
    subst this; rw [digs_zeroq]; exact Nat.le_refl _
  | j + 1, n, h => by
    by_cases h0 : n = 0
    · subst h0; rw [digs_zeroq]; simp
    · rw [digs_posq h0, List.length_cons]
      have : n / 18446744073709551616 < 18446744073709551616 ^ j := Nat.div_lt_of_lt_mul (by rw [Nat.pow_succ] at h; omega)
      have := digs_len_leq j _ this
      omega
theorem mul_numq (V x Bk bk i k : Nat) : V % 18446744073709551616 ^ (i + k + 1) + x * (Bk + 18446744073709551616 ^ k * bk) * 18446744073709551616 ^ i = (V % 18446744073709551616 ^ (i + k) + x * Bk * 18446744073709551616 ^ i) + 18446744073709551616 ^ (i + k) * (V / 18446744073709551616 ^ (i + k) % 18446744073709551616 + x * bk) := by
  rw [Nat.mod_pow_succ, Nat.pow_add]
  grind
theorem carry_stepq (V x Bk bk i k : Nat) : (V % 18446744073709551616 ^ (i + k + 1) + x * (Bk + 18446744073709551616 ^ k * bk) * 18446744073709551616 ^ i) / 18446744073709551616 ^ (i + k + 1) = ((V % 18446744073709551616 ^ (i + k) + x * Bk * 18446744073709551616 ^ i) / 18446744073709551616 ^ (i + k) + V / 18446744073709551616 ^ (i + k) % 18446744073709551616 + x * bk) / 18446744073709551616 := by
  rw [mul_numq, Nat.pow_succ, <- Nat.div_div_eq_div_mul, Nat.add_mul_div_left _ _ (Nat.pow_pos (by decide)), Nat.add_assoc]
theorem carry_digitq (V x Bk bk i k R : Nat) : (V + x * (Bk + 18446744073709551616 ^ k * bk + 18446744073709551616 ^ (k + 1) * R) * 18446744073709551616 ^ i) / 18446744073709551616 ^ (i + k) % 18446744073709551616 = ((V % 18446744073709551616 ^ (i + k) + x * Bk * 18446744073709551616 ^ i) / 18446744073709551616 ^ (i + k) + V / 18446744073709551616 ^ (i + k) % 18446744073709551616 + x * bk) % 18446744073709551616 := by
  have e : V + x * (Bk + 18446744073709551616 ^ k * bk + 18446744073709551616 ^ (k + 1) * R) * 18446744073709551616 ^ i = (V % 18446744073709551616 ^ (i + k + 1) + x * (Bk + 18446744073709551616 ^ k * bk) * 18446744073709551616 ^ i) + 18446744073709551616 ^ (i + k + 1) * (V / 18446744073709551616 ^ (i + k + 1) + x * R) := by
    have h := Nat.div_add_mod V (18446744073709551616 ^ (i + k + 1))
    have h2 : 18446744073709551616 ^ (i + k + 1) = 18446744073709551616 ^ (k + 1) * 18446744073709551616 ^ i := by rw [<- Nat.pow_add]; congr 1; omega
    generalize V / 18446744073709551616 ^ (i + k + 1) = q at *
    generalize V % 18446744073709551616 ^ (i + k + 1) = r at *
    rw [<- h, h2]
    grind
  rw [digit_ofq e, mul_numq, Nat.add_mul_div_left _ _ (Nat.pow_pos (by decide)), Nat.add_assoc]
theorem carry_ltq {V x Bk i k : Nat} (hx : x < 18446744073709551616) (hB : Bk < 18446744073709551616 ^ k) : (V % 18446744073709551616 ^ (i + k) + x * Bk * 18446744073709551616 ^ i) / 18446744073709551616 ^ (i + k) < 18446744073709551616 := by
  rw [Nat.div_lt_iff_lt_mul (Nat.pow_pos (by decide))]
  have h1 : V % 18446744073709551616 ^ (i + k) < 18446744073709551616 ^ (i + k) := Nat.mod_lt _ (Nat.pow_pos (by decide))
  have h2 : x * Bk <= 18446744073709551615 * 18446744073709551616 ^ k := Nat.mul_le_mul (by omega) (by omega)
  have h3 : x * Bk * 18446744073709551616 ^ i <= 18446744073709551615 * 18446744073709551616 ^ (i + k) := by
    have := Nat.mul_le_mul_right (18446744073709551616 ^ i) h2
    rwa [Nat.mul_assoc 18446744073709551615, <- Nat.pow_add, Nat.add_comm k i] at this
  omega
theorem dl_getDq (S : Nat) {L i : Nat} (h : i < L) : (dlq S L).getD i 0 = ((S / 18446744073709551616 ^ i % 18446744073709551616 : Nat) : Int) := by
  induction L with
  | zero => omega
  | succ L ih =>
    show ((dlq S L) ++ [_]).getD i 0 = _
    rw [List.getD_eq_getElem?_getD]
    by_cases hi : i < L
    · rw [List.getElem?_append_left (by rw [dl_lengthq]; exact hi), <- List.getD_eq_getElem?_getD, ih hi]
    · have : i = L := by omega
      subst this
      rw [List.getElem?_append_right (by rw [dl_lengthq]; exact Nat.le_refl _), dl_lengthq, Nat.sub_self]; rfl
theorem mval_take_succqq {b : List Int} {k : Nat} : mvalq (b.take (k + 1)) = mvalq (b.take k) + 18446744073709551616 ^ k * (b.getD k 0).toNat := mval_take_allq k
theorem dl_mid_setq (U V L p : Nat) (h : p < L) : (dlq U p ++ (dlq V L).drop p).set p ((U / 18446744073709551616 ^ p % 18446744073709551616 : Nat) : Int) = dlq U (p + 1) ++ (dlq V L).drop (p + 1) := by
  rw [drop_cons (by rw [dl_lengthq]; exact h), set_append_at _ _ _ _ _ (by rw [dl_lengthq])]
  show _ = (dlq U p ++ [_]) ++ _
  rw [List.append_assoc]; rfl
theorem dl_mid_getq (U V L p : Nat) (h : p < L) : (dlq U p ++ (dlq V L).drop p).getD p 0 = ((V / 18446744073709551616 ^ p % 18446744073709551616 : Nat) : Int) := by
  rw [drop_cons (by rw [dl_lengthq]; exact h), getD_append_at (by rw [dl_lengthq]), dl_getDq V h]
theorem dl_mid_lenq (U V L p : Nat) (h : p <= L) : (dlq U p ++ (dlq V L).drop p).length = L := by simp [dl_lengthq]; omega
theorem dl_beyondq {U L p : Nat} (hU : U < 18446744073709551616 ^ p) (h : p <= L) {V : Nat} (hV : V < 18446744073709551616 ^ p) : dlq U p ++ (dlq V L).drop p = dlq U L := by
  induction L with
  | zero =>
    have : p = 0 := by omega
    subst this; rfl
  | succ L ih =>
    by_cases hp : p = L + 1
    · subst hp; rw [List.drop_of_length_le (by rw [dl_lengthq]; omega), List.append_nil]
    · have hpL : p <= L := by omega
      have e : ∀ X, X < 18446744073709551616 ^ p -> dlq X (L + 1) = dlq X L ++ [0] := by
        intro X hX
        show dlq X L ++ [((X / 18446744073709551616 ^ L % 18446744073709551616 : Nat) : Int)] = _
        rw [Nat.div_eq_of_lt (Nat.lt_of_lt_of_le hX (Nat.pow_le_pow_right (by decide) hpL))]; rfl
      rw [e V hV, e U hU, List.drop_append_of_le_length (by rw [dl_lengthq]; exact hpL), <- List.append_assoc, ih hpL]
theorem mval_boundq {a : List Int} (ha : InWq a) (i : Nat) : mvalq (a.take i) < 18446744073709551616 ^ i := mval_take_ltq ha i
theorem mul_lt_powq {x y i j : Nat} (hx : x < 18446744073709551616 ^ i) (hy : y < 18446744073709551616 ^ j) : x * y < 18446744073709551616 ^ (i + j) := by
  rw [Nat.pow_add]
  exact Nat.mul_lt_mul'' hx hy

end Go.Proofs.YtccocdgimamdhaaGreatDoor
