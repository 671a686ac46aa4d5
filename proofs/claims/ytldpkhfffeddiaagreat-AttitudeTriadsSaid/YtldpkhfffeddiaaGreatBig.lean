/-
  WHOLE NUMBERS AS WORDS of 32 bits, the least ahead: what a list is worth, a number's words.
  Conditions: none.
-/
import Derived.Test.YtldpkhfffeddiaaGreatMachP
import Derived.Test.YtldpkhfffeddiaaGreatGp
import Derived.Test.YtldpkhfffeddiaaGreatFlA
section
namespace Go.Mach

/-- what a list of words is worth -/
def mval : List Int → Nat
  | [] => 0
  | x :: r => x.toNat + 4294967296 * mval r
/-- each a word -/
def InW (m : List Int) : Prop := ∀ x ∈ m, 0 ≤ x ∧ x < 4294967296
/-- a number's words, without noughts at the end -/
def digs (n : Nat) : List Int := if h : n = 0 then [] else ((n % 4294967296 : Nat) : Int) :: digs (n / 4294967296)
termination_by n
decreasing_by omega
theorem digs_zero : digs 0 = [] := by rw [digs]; simp
theorem digs_pos {n : Nat} (h : n ≠ 0) : digs n = ((n % 4294967296 : Nat) : Int) :: digs (n / 4294967296) := by
  rw [digs]; simp [h]
theorem digs_inW : ∀ n, InW (digs n) := by
  intro n
  induction n using Nat.strongRecOn with
  | ind n ih =>
    by_cases h : n = 0
    · subst h; rw [digs_zero]; intro x hx; cases hx
    · rw [digs_pos h]
      intro x hx
      rcases List.mem_cons.1 hx with rfl | hx
      · omega
      · exact ih (n / 4294967296) (by omega) x hx
theorem mval_digs : ∀ n, mval (digs n) = n := by
  intro n
  induction n using Nat.strongRecOn with
  | ind n ih =>
    by_cases h : n = 0
    · subst h; rw [digs_zero]; rfl
    · rw [digs_pos h, mval, ih (n / 4294967296) (by omega), Int.toNat_natCast]
      omega
theorem mval_append (a b : List Int) : mval (a ++ b) = mval a + 4294967296 ^ a.length * mval b := by
  induction a with
  | nil => simp [mval]
  | cons x r ih =>
    rw [List.cons_append, mval, ih, mval, List.length_cons, Nat.pow_succ, Nat.mul_add, Nat.mul_comm (4294967296 ^ r.length) 4294967296, Nat.mul_assoc]
    omega
theorem InW.take {m : List Int} (h : InW m) (n : Nat) : InW (m.take n) := fun x hx => h x (List.mem_of_mem_take hx)
theorem InW.drop {m : List Int} (h : InW m) (n : Nat) : InW (m.drop n) := fun x hx => h x (List.mem_of_mem_drop hx)
theorem InW.cons {x : Int} {m : List Int} (h : InW (x :: m)) : (0 ≤ x ∧ x < 4294967296) ∧ InW m := ⟨h x (by simp), fun y hy => h y (by simp [hy])⟩
theorem InW.at {m : List Int} (h : InW m) {i : Nat} : 0 ≤ m.getD i 0 ∧ m.getD i 0 < 4294967296 := by
  rw [List.getD_eq_getElem?_getD]
  by_cases hi : i < m.length
  · rw [List.getElem?_eq_getElem hi]; exact h _ (List.getElem_mem hi)
  · rw [List.getElem?_eq_none (by omega)]; exact ⟨by decide, by decide⟩
theorem mval_lt : ∀ {m : List Int}, InW m → mval m < 4294967296 ^ m.length
  | [], _ => by simp [mval]
  | x :: r, h => by
    have ih := mval_lt h.cons.2
    have hx := h.cons.1
    rw [mval, List.length_cons, Nat.pow_succ]
    have : mval r + 1 ≤ 4294967296 ^ r.length := ih
    have := Nat.mul_le_mul_right 4294967296 this
    omega
/-- without noughts at its end, a list is its number's words -/
theorem digs_mval : ∀ {m : List Int}, InW m → (∀ x, m.getLast? = some x → x ≠ 0) → digs (mval m) = m
  | [], _, _ => digs_zero
  | [x], h, hl => by
    have hx := h.cons.1
    have h0 : x ≠ 0 := hl x rfl
    have e : mval [x] = x.toNat := by simp [mval]
    rw [e, digs_pos (by omega), Nat.div_eq_of_lt (by omega), digs_zero, Nat.mod_eq_of_lt (by omega), Int.toNat_of_nonneg hx.1]
  | x :: y :: r, h, hl => by
    have hx := h.cons.1
    have ih := digs_mval h.cons.2 (fun z hz => hl z (by rw [List.getLast?_cons_cons]; exact hz))
    have hne : mval (y :: r) ≠ 0 := by
      intro h0
      rw [h0, digs_zero] at ih; cases ih
    have e1 : mval (x :: y :: r) = x.toNat + 4294967296 * mval (y :: r) := rfl
    rw [e1, digs_pos (by omega)]
    have e2 : (x.toNat + 4294967296 * mval (y :: r)) % 4294967296 = x.toNat := by omega
    have e3 : (x.toNat + 4294967296 * mval (y :: r)) / 4294967296 = mval (y :: r) := by omega
    rw [e2, e3, ih, Int.toNat_of_nonneg hx.1]
theorem mval_take_succ {m : List Int} {i : Nat} (hi : i < m.length) : mval (m.take (i + 1)) = mval (m.take i) + 4294967296 ^ i * (m.getD i 0).toNat := by
  rw [List.take_succ_eq_append_getElem hi, mval_append, List.length_take, Nat.min_eq_left (by omega), List.getD_eq_getElem?_getD, List.getElem?_eq_getElem hi]
  simp [mval]
theorem mval_replicate (n : Nat) : mval (List.replicate n 0) = 0 := by
  induction n with
  | zero => rfl
  | succ n ih => rw [List.replicate_succ, mval, ih]; rfl
theorem mval_snoc_zero (m : List Int) : mval (m ++ [0]) = mval m := by rw [mval_append]; simp [mval]

/-- the first n words of a number -/
def dl (S : Nat) : Nat → List Int
  | 0 => []
  | n + 1 => dl S n ++ [((S / 4294967296 ^ n % 4294967296 : Nat) : Int)]
theorem dl_length (S : Nat) : ∀ n, (dl S n).length = n
  | 0 => rfl
  | n + 1 => by simp [dl, dl_length S n]
theorem dl_inW (S : Nat) : ∀ n, InW (dl S n)
  | 0 => fun x hx => by cases hx
  | n + 1 => fun x hx => by
    rcases List.mem_append.1 hx with h | h
    · exact dl_inW S n x h
    · simp only [List.mem_singleton] at h
      subst h
      omega
theorem mval_dl (S : Nat) : ∀ n, mval (dl S n) = S % 4294967296 ^ n
  | 0 => by simp [dl, mval, Nat.mod_one]
  | n + 1 => by
    rw [dl, mval_append, dl_length, mval_dl S n, Nat.pow_succ, Nat.mod_mul]
    simp only [mval, Int.toNat_natCast, Nat.mul_zero, Nat.add_zero]
theorem dl_set (S n m : Nat) (h : n < m) : (dl S n ++ List.replicate (m - n) 0).set n ((S / 4294967296 ^ n % 4294967296 : Nat) : Int) = dl S (n + 1) ++ List.replicate (m - (n + 1)) 0 := by
  rw [List.set_append_right _ _ (by rw [dl_length]; exact Nat.le_refl _), dl_length, Nat.sub_self]
  have : m - n = (m - (n + 1)) + 1 := by omega
  rw [this, List.replicate_succ]
  simp [dl]
theorem dl_full {S n m : Nat} (h : n = m) : dl S n ++ List.replicate (m - n) 0 = dl S n := by simp [h]
/-- a number's words, if so many are enough -/
theorem digs_dl {S n : Nat} (h : S < 4294967296 ^ n) : digs (mval (dl S n)) = digs S := by rw [mval_dl, Nat.mod_eq_of_lt h]

end Go.Mach
end
section
namespace Go.Proofs.YtldpkhfffeddiaaGreat
open Go Go.Mach

theorem and_tr {a c : Bool} (h : a = true) : (a && c) = c := by rw [h]; rfl
theorem wrap64 (z : Int) : IntKind.wrap .u64 z = z % 18446744073709551616 := by rfl
theorem wrap32 (z : Int) : IntKind.wrap .u32 z = z % 4294967296 := by rfl
theorem fdiv32 (z : Int) : Int.fdiv z (2 ^ 32) = z / 4294967296 := by
  rw [Int.fdiv_eq_ediv_of_nonneg _ (by decide)]; rfl
theorem iterG_from0 {σ : Type} {step : σ → (σ → Bool) → Bool} {s : σ} (C : Nat → σ) (n : Nat) {N : Nat} (h0 : s = C 0) (hn : n < N) {out : Bool} (hs : ∀ i, i < n → ∀ K : σ → Bool, step (C i) K = K (C (i + 1))) (hx : ∀ K, step (C n) K = out) : iterG N step s = out := by
  subst h0; exact iterG_eq C n hn hs hx

/-! ### cut -/
def cutLen (b : List Int) : Nat → Nat
  | 0 => 0
  | n + 1 => if b.getD n 0 = 0 then cutLen b n else n + 1
theorem cutLen_succ (b : List Int) (n : Nat) : cutLen b (n + 1) = if b.getD n 0 = 0 then cutLen b n else n + 1 := rfl
theorem cutLen_le (b : List Int) : ∀ n, cutLen b n ≤ n
  | 0 => Nat.le_refl _
  | n + 1 => by unfold cutLen; split; exact Nat.le_succ_of_le (cutLen_le b n); exact Nat.le_refl _
theorem getD_zero_of {b : List Int} {i : Nat} (h : b.length ≤ i) : b.getD i 0 = 0 := by
  rw [List.getD_eq_getElem?_getD, List.getElem?_eq_none h]; rfl
theorem mval_take_all {m : List Int} (i : Nat) : mval (m.take (i + 1)) = mval (m.take i) + 4294967296 ^ i * (m.getD i 0).toNat := by
  by_cases h : i < m.length
  · exact mval_take_succ h
  · rw [getD_zero_of (by omega), List.take_of_length_le (by omega), List.take_of_length_le (by omega)]; simp
theorem cutLen_mval (b : List Int) : ∀ n, mval (b.take (cutLen b n)) = mval (b.take n)
  | 0 => rfl
  | n + 1 => by
    unfold cutLen
    split
    · rename_i h
      rw [cutLen_mval b n, mval_take_all, h]; simp
    · rfl
theorem getLast?_take {b : List Int} {n : Nat} (h : n < b.length) : (b.take (n + 1)).getLast? = some (b.getD n 0) := by
  rw [List.take_succ_eq_append_getElem h, List.getLast?_append, List.getD_eq_getElem?_getD, List.getElem?_eq_getElem h]
  simp
theorem cutLen_last (b : List Int) : ∀ n, n ≤ b.length → ∀ x, (b.take (cutLen b n)).getLast? = some x → x ≠ 0
  | 0, _, x, h => by simp [cutLen] at h
  | n + 1, hn, x, h => by
    unfold cutLen at h
    split at h
    · exact cutLen_last b n (by omega) x h
    · rename_i h0
      rw [getLast?_take (by omega)] at h
      cases h; exact h0
/-- cut: the number's words -/
theorem take_cutLen {b : List Int} (hb : InW b) : b.take (cutLen b b.length) = digs (mval b) := by
  have h1 := cutLen_mval b b.length
  rw [List.take_length] at h1
  rw [← h1, digs_mval (hb.take _) (cutLen_last b b.length (Nat.le_refl _))]
theorem law_cut_w {N : Nat} (b : List Int) (hN : b.length < N) (hs : b.length < 9223372036854775807) (k : Nat → Nat → Bool) : s_q8 N b k = k 0 (cutLen b b.length) := by
  unfold s_q8 G_q8
  have key : ∀ n, n ≤ b.length → ∀ M, n < M → iterG M (st_q144 N 0 b fun m => k 0 m) n = k 0 (cutLen b n) := by
    intro n
    induction n with
    | zero =>
      intro _ M hM
      cases M with
      | zero => omega
      | succ M =>
        show st_q144 N 0 b _ 0 _ = _
        simp [st_q144, cutLen]
    | succ n ih =>
      intro hn M hM
      cases M with
      | zero => omega
      | succ M =>
        show st_q144 N 0 b _ (n + 1) (iterG M _) = _
        have e : Int.toNat (((n + 1 : Nat) : Int) - 1) = n := by omega
        simp only [st_q144, e, Nat.zero_add, Nat.sub_zero]
        rw [decide_eq_true (by omega : ((n + 1 : Nat) : Int) > 0), and_tr (fits_ok (by omega) (by omega)), and_tr (inR_of (by omega) (by omega)), and_tr (decide_eq_true (by omega)), and_tr (fits_ok (by omega) (by omega)), and_tr (decide_eq_true (by omega)), ih (by omega) M (by omega)]
        rw [cutLen_succ]
        by_cases h0 : b.getD n 0 = 0
        · have : (b.getD n 0 == 0) = true := by simpa using h0
          rw [this, if_pos h0]; rfl
        · have : (b.getD n 0 == 0) = false := by simpa using h0
          rw [this, if_neg h0]; rfl
  exact key b.length (Nat.le_refl _) N hN
theorem law_cut {N : Nat} (m : List Int) (hm : InW m) (hN : m.length < N) (hs : m.length < 9223372036854775807) (k : List Int → Bool) : s_q100 N m k = k (digs (mval m)) := by
  unfold s_q100 G_q100
  have key : ∀ n, n < 9223372036854775807 → ∀ (l : List Int), l.length = n → InW l → ∀ M, n < M → iterG M (st_z00_cut_0 N fun m_2 => k m_2) l = k (digs (mval l)) := by
    intro n
    induction n with
    | zero =>
      intro _ l hl _ M hM
      cases M with
      | zero => omega
      | succ M =>
        have : l = [] := List.length_eq_zero_iff.1 hl
        subst this
        show st_z00_cut_0 N _ [] _ = _
        simp [st_z00_cut_0, mval, digs_zero]
    | succ n ih =>
      intro hn l hl hw M hM
      cases M with
      | zero => omega
      | succ M =>
        show st_z00_cut_0 N _ l (iterG M _) = _
        have e : Int.toNat ((l.length : Int) - 1) = n := by omega
        simp only [st_z00_cut_0, e, List.drop_zero]
        rw [decide_eq_true (by omega : (l.length : Int) > 0), and_tr (fits_ok (by omega) (by omega)), and_tr (inR_of (by omega) (by omega)), and_tr (fits_ok (by omega) (by omega)), and_tr (decide_eq_true (by omega)), ih (by omega) (l.take n) (by simp; omega) (hw.take n) M (by omega)]
        have e2 := mval_take_all (m := l) n
        rw [List.take_of_length_le (by omega)] at e2
        by_cases h0 : l.getD n 0 = 0
        · have : (l.getD n 0 == 0) = true := by simpa using h0
          rw [this]
          rw [h0] at e2
          simp at e2
          rw [e2]; rfl
        · have : (l.getD n 0 == 0) = false := by simpa using h0
          rw [this, digs_mval hw (fun x hx => by
            have := getLast?_take (b := l) (n := n) (by omega)
            rw [List.take_of_length_le (by omega)] at this
            rw [this] at hx; cases hx; exact h0)]
          rfl
  exact key m.length hs m rfl hm N hN
/-- cut, and what is left of it -/
theorem law_cut_take {N : Nat} (b : List Int) (hb : InW b) (hN : b.length < N) (hs : b.length < 9223372036854775807) (k : List Int → Bool) :
    (s_q8 N b fun m l => (decide (m + l ≤ b.length)) && k (List.take l (List.drop m b))) = k (digs (mval b)) := by
  rw [law_cut_w b hN hs, List.drop_zero, take_cutLen hb]
  have := cutLen_le b b.length
  rw [decide_eq_true (by omega)]; rfl

/-- short -/
def Short (N : Nat) (l : List Int) : Prop := l.length + 2 < N ∧ l.length ≤ 17592186044416
/-! ### sums -/
theorem div_pow_add (T A i : Nat) : (T + 4294967296 ^ i * A) / 4294967296 ^ i = T / 4294967296 ^ i + A := Nat.add_mul_div_left _ _ (Nat.pow_pos (by decide))
theorem mval_split (m : List Int) (i : Nat) : mval m = mval (m.take i) + 4294967296 ^ (m.take i).length * mval (m.drop i) := by
  rw [← mval_append, List.take_append_drop]
theorem mval_split_ge (m : List Int) (i : Nat) : ∃ R, mval m = mval (m.take i) + 4294967296 ^ i * R := by
  by_cases h : i ≤ m.length
  · refine ⟨mval (m.drop i), ?_⟩
    have := mval_split m i
    rwa [List.length_take, Nat.min_eq_left h] at this
  · exact ⟨0, by rw [List.take_of_length_le (by omega)]; simp⟩
theorem mval_take_lt {m : List Int} (h : InW m) (i : Nat) : mval (m.take i) < 4294967296 ^ i := by
  have h1 := mval_lt (h.take i)
  have h2 : (m.take i).length ≤ i := by simp; omega
  exact Nat.lt_of_lt_of_le h1 (Nat.pow_le_pow_right (by decide) h2)
theorem digit_of {S T R i : Nat} (h : S = T + 4294967296 ^ (i + 1) * R) : S / 4294967296 ^ i % 4294967296 = T / 4294967296 ^ i % 4294967296 := by
  rw [h, Nat.pow_succ, Nat.mul_assoc, div_pow_add, Nat.add_mul_mod_self_left]
theorem plus_loop {N : Nat} (a b : List Int) (ha : InW a) (hb : InW b) (hl : b.length ≤ a.length) (hN : Short N a) (k : List Int → Bool) :
    iterG N (st_z00_plus_0 N (s_q8 N) a b fun carry out => (inR (a.length : Nat) out.length) && ((decide ((Int.toNat (a.length : Nat)) < out.length)) &&
      (s_q8 N (List.set out (Int.toNat (a.length : Nat)) (IntKind.wrap .u32 carry)) fun mr mr_1 => (decide ((mr + mr_1) ≤ (List.length (List.set out (Int.toNat (a.length : Nat)) (IntKind.wrap .u32 carry))))) && k (List.take mr_1 (List.drop mr (List.set out (Int.toNat (a.length : Nat)) (IntKind.wrap .u32 carry)))))))
      (0, 0, List.replicate (a.length + 1) 0) = k (digs (mval a + mval b)) := by
  obtain ⟨hN1, hN2⟩ := hN
  let S := mval a + mval b
  let T := fun i => mval (a.take i) + mval (b.take i)
  refine iterG_from0 (fun i => (((T i / 4294967296 ^ i : Nat) : Int), (i : Int), dl S i ++ List.replicate (a.length + 1 - i) 0)) a.length (by simp [T, mval, dl]) (by omega) (fun i hi K => ?_) (fun K => ?_)
  · have hx := ha.at (i := i)
    have hy := hb.at (i := i)
    have hT : T (i + 1) = T i + 4294967296 ^ i * ((a.getD i 0).toNat + (b.getD i 0).toNat) := by
      simp only [T, mval_take_all, Nat.mul_add]; omega
    have hq : T (i + 1) / 4294967296 ^ i = T i / 4294967296 ^ i + ((a.getD i 0).toNat + (b.getD i 0).toNat) := by rw [hT, div_pow_add]
    have hc : T i / 4294967296 ^ i ≤ 1 := by
      have h1 := mval_take_lt ha i
      have h2 := mval_take_lt hb i
      have h3 : T i < 4294967296 ^ i * 2 := by simp only [T]; omega
      have := (Nat.div_lt_iff_lt_mul (Nat.pow_pos (n := i) (by decide : 0 < 4294967296))).2 (by rw [Nat.mul_comm]; exact h3 : T i < 2 * 4294967296 ^ i)
      omega
    have hdiv : T (i + 1) / 4294967296 ^ (i + 1) = T (i + 1) / 4294967296 ^ i / 4294967296 := by rw [Nat.pow_succ, Nat.div_div_eq_div_mul]
    have hdig : S / 4294967296 ^ i % 4294967296 = T (i + 1) / 4294967296 ^ i % 4294967296 := by
      obtain ⟨R1, h1⟩ := mval_split_ge a (i + 1)
      obtain ⟨R2, h2⟩ := mval_split_ge b (i + 1)
      refine digit_of (R := R1 + R2) ?_
      simp only [S, T]
      rw [Nat.mul_add]; omega
    have hset := dl_set S i (a.length + 1) (by omega)
    have hlen : (dl S i ++ List.replicate (a.length + 1 - i) 0).length = a.length + 1 := by simp [dl_length]; omega
    generalize hq' : T i / 4294967296 ^ i = q at *
    generalize hx' : a.getD i 0 = x at *
    generalize hy' : b.getD i 0 = y at *
    simp only [st_z00_plus_0, Int.toNat_natCast]
    rw [decide_eq_true (by omega : (i : Int) < a.length), cond_true, hx', hy', and_tr (inR_of (by omega) (by omega)), hlen]
    have hstep : ∀ s : Int, s = ((q + (x.toNat + y.toNat) : Nat) : Int) → K ((Int.fdiv s (2 ^ 32)), ((i : Int) + 1), (List.set (dl S i ++ List.replicate (a.length + 1 - i) 0) i (IntKind.wrap .u32 s))) = K (((T (i + 1) / 4294967296 ^ (i + 1) : Nat) : Int), ((i + 1 : Nat) : Int), dl S (i + 1) ++ List.replicate (a.length + 1 - (i + 1)) 0) := by
      intro s hs
      have e1 : Int.fdiv s (2 ^ 32) = ((T (i + 1) / 4294967296 ^ (i + 1) : Nat) : Int) := by rw [fdiv32, hdiv, hq, hs]; omega
      have e2 : IntKind.wrap .u32 s = ((S / 4294967296 ^ i % 4294967296 : Nat) : Int) := by rw [wrap32, hdig, hq, hs]; omega
      rw [e1, e2, hset]; rfl
    by_cases hib : i < b.length
    · rw [decide_eq_true (by omega : (i : Int) < b.length), cond_true, and_tr (inR_of (by omega) (by omega)), and_tr (inR_of (by omega) (by omega)), and_tr (decide_eq_true (by omega)), and_tr (fits_ok (by omega) (by omega))]
      exact hstep _ (by simp only [wrap64]; omega)
    · rw [decide_eq_false (by omega : ¬ (i : Int) < b.length), cond_false, and_tr (inR_of (by omega) (by omega)), and_tr (decide_eq_true (by omega)), and_tr (fits_ok (by omega) (by omega))]
      have hy0 : y = 0 := by rw [← hy']; exact getD_zero_of (by omega)
      subst hy0
      exact hstep _ (by simp only [wrap64]; omega)
  · simp only [st_z00_plus_0]
    rw [decide_eq_false (by omega : ¬ (a.length : Int) < a.length), cond_false]
    have hT : T a.length = S := by simp only [T, S]; rw [List.take_length, List.take_of_length_le hl]
    have hS : S < 4294967296 ^ (a.length + 1) := by
      have h1 := mval_lt ha
      have h2 := mval_lt hb
      have h3 : 4294967296 ^ b.length ≤ 4294967296 ^ a.length := Nat.pow_le_pow_right (by decide) hl
      rw [Nat.pow_succ]
      simp only [S]; omega
    have hlen : (dl S a.length ++ List.replicate (a.length + 1 - a.length) 0).length = a.length + 1 := by simp [dl_length]
    have e2 : IntKind.wrap .u32 ((T a.length / 4294967296 ^ a.length : Nat) : Int) = ((S / 4294967296 ^ a.length % 4294967296 : Nat) : Int) := by rw [wrap32, hT]; omega
    have hset := dl_set S a.length (a.length + 1) (by omega)
    rw [e2, Int.toNat_natCast, hset, hlen, and_tr (inR_of (by omega) (by omega)), and_tr (decide_eq_true (by omega)), Nat.sub_self, List.replicate_zero, List.append_nil,
      law_cut_take _ (dl_inW S _) (by rw [dl_length]; omega) (by rw [dl_length]; omega), digs_dl hS]
theorem law_plus {N : Nat} (a b : List Int) (ha : InW a) (hb : InW b) (hNa : Short N a) (hNb : Short N b) (k : List Int → Bool) : s_q45 N a b k = k (digs (mval a + mval b)) := by
  unfold s_q45 G_q45
  have h1 := hNa.2
  have h2 := hNb.2
  by_cases h : a.length < b.length
  · rw [decide_eq_true (by omega : (a.length : Int) < b.length), cond_true, and_tr (fits_ok (by omega) (by omega)), and_tr (mkOk_ok (by omega) (by omega) (by omega) (by omega))]
    have e : Int.toNat ((b.length : Int) + 1) = b.length + 1 := by omega
    rw [e, plus_loop b a hb ha (by omega) hNb k, Nat.add_comm]
  · rw [decide_eq_false (by omega : ¬ (a.length : Int) < b.length), cond_false, and_tr (fits_ok (by omega) (by omega)), and_tr (mkOk_ok (by omega) (by omega) (by omega) (by omega))]
    have e : Int.toNat ((a.length : Int) + 1) = a.length + 1 := by omega
    rw [e, plus_loop a b ha hb (by omega) hNa k]

end Go.Proofs.YtldpkhfffeddiaaGreat
end
section
namespace Go.Proofs.YtldpkhfffeddiaaGreat
open Go Go.Mach

theorem pow_pos32 (i : Nat) : 0 < 4294967296 ^ i := Nat.pow_pos (by decide)
/-! ### differences -/
theorem int_div_of {D e P : Nat} {z : Int} (h : (D : Int) = (e : Int) + (P : Int) * z) (he : e < P) : ((D / P : Nat) : Int) = z := by
  have hP : (P : Int) ≠ 0 := by omega
  rw [Int.natCast_ediv, h, Int.add_mul_ediv_left _ _ hP, ← Int.natCast_ediv, Nat.div_eq_of_lt he]
  simp
theorem borrow_step (P A B x y : Nat) (hA : A < P) (hB : B < P) : (if A + P * x < B + P * y then 1 else 0) = if x < y + (if A < B then 1 else 0) then 1 else (0 : Nat) := by
  by_cases hxy : x < y
  · have : P * (x + 1) ≤ P * y := Nat.mul_le_mul_left P hxy
    rw [Nat.mul_add] at this
    rw [if_pos (by omega), if_pos (by omega)]
  · by_cases hyx : y < x
    · have : P * (y + 1) ≤ P * x := Nat.mul_le_mul_left P hyx
      rw [Nat.mul_add] at this
      rw [if_neg (by omega), if_neg (by split <;> omega)]
    · have : x = y := by omega
      subst this
      by_cases hAB : A < B
      · rw [if_pos (by omega), if_pos hAB, if_pos (by omega)]
      · rw [if_neg (by omega), if_neg hAB, if_neg (by omega)]
theorem diff_div {P A B x y o R1 R2 D a b : Nat} (hA : A < P) (hB : B < P) (ho : o = if A < B then 1 else 0) (h1 : a = A + P * x + P * 4294967296 * R1) (h2 : b = B + P * y + P * 4294967296 * R2) (hD : (D : Int) = (a : Int) - (b : Int)) :
    ((D / P : Nat) : Int) = (x : Int) - (y : Int) - (o : Int) + 4294967296 * ((R1 : Int) - (R2 : Int)) := by
  have he : ∃ e : Nat, e < P ∧ (e : Int) = (A : Int) - (B : Int) + (P : Int) * (o : Int) := by
    rw [ho]
    split
    · exact ⟨A + P - B, by omega, by omega⟩
    · exact ⟨A - B, by omega, by omega⟩
  obtain ⟨e, he1, he2⟩ := he
  refine int_div_of (e := e) ?_ he1
  have e1 : (a : Int) = A + (P : Int) * x + 4294967296 * ((P : Int) * R1) := by
    rw [h1, Nat.mul_assoc, Nat.mul_left_comm]; simp
  have e2 : (b : Int) = B + (P : Int) * y + 4294967296 * ((P : Int) * R2) := by
    rw [h2, Nat.mul_assoc, Nat.mul_left_comm]; simp
  have e3 : (P : Int) * ((x : Int) - (y : Int) - (o : Int) + 4294967296 * ((R1 : Int) - (R2 : Int))) = (P : Int) * x - (P : Int) * y - (P : Int) * o + (4294967296 * ((P : Int) * R1) - 4294967296 * ((P : Int) * R2)) := by
    rw [Int.mul_add, Int.mul_sub, Int.mul_sub, Int.mul_left_comm, Int.mul_sub, Int.mul_sub]
  rw [hD, e1, e2, e3, he2]
  omega
theorem law_minus {N : Nat} (a b : List Int) (ha : InW a) (hb : InW b) (hle : mval b ≤ mval a) (hN : Short N a) (k : List Int → Bool) : s_q10 N a b k = k (digs (mval a - mval b)) := by
  obtain ⟨hN1, hN2⟩ := hN
  unfold s_q10 G_q10
  rw [and_tr (mkOk_ok (by omega) (by omega) (by omega) (by omega)), Int.toNat_natCast]
  let D := mval a - mval b
  let bo := fun i => if mval (a.take i) < mval (b.take i) then (1 : Nat) else 0
  refine iterG_from0 (fun i => (((bo i : Nat) : Int), (i : Int), dl D i ++ List.replicate (a.length - i) 0)) a.length (by simp [bo, mval, dl]) (by omega) (fun i hi K => ?_) (fun K => ?_)
  · have hx := ha.at (i := i)
    have hy := hb.at (i := i)
    have hA := mval_take_all (m := a) i
    have hB := mval_take_all (m := b) i
    have hAl := mval_take_lt ha i
    have hBl := mval_take_lt hb i
    have hset := dl_set D i a.length (by omega)
    have hl : (dl D i ++ List.replicate (a.length - i) 0).length = a.length := by simp [dl_length]; omega
    obtain ⟨R1, h1⟩ := mval_split_ge a (i + 1)
    obtain ⟨R2, h2⟩ := mval_split_ge b (i + 1)
    have hD : (D : Int) = (mval a : Int) - (mval b : Int) := by simp only [D]; omega
    have hP := pow_pos32 i
    have hPs : 4294967296 ^ (i + 1) = 4294967296 ^ i * 4294967296 := Nat.pow_succ ..
    have hbo : bo i ≤ 1 := by simp only [bo]; split <;> omega
    have hbs : bo (i + 1) = if (a.getD i 0).toNat < (b.getD i 0).toNat + bo i then 1 else 0 := by
      simp only [bo, hA, hB]
      exact borrow_step _ _ _ _ _ hAl hBl
    have hq : ((D / 4294967296 ^ i : Nat) : Int) = ((a.getD i 0).toNat : Int) - ((b.getD i 0).toNat : Int) - (bo i : Int) + 4294967296 * ((R1 : Int) - (R2 : Int)) := by
      rw [hA, hPs] at h1
      rw [hB, hPs] at h2
      exact diff_div hAl hBl rfl h1 h2 hD
    have hdig : ((D / 4294967296 ^ i % 4294967296 : Nat) : Int) = (((a.getD i 0).toNat : Int) - ((b.getD i 0).toNat : Int) - (bo i : Int)) % 4294967296 := by
      rw [Int.natCast_emod, hq]
      exact Int.add_mul_emod_self_left _ _ _
    generalize hx' : a.getD i 0 = x at *
    generalize hy' : b.getD i 0 = y at *
    generalize bo i = o at *
    generalize bo (i + 1) = o' at *
    simp only [st_z00_minus_0, Int.toNat_natCast]
    have hy0 : ¬ i < b.length → y = 0 := fun h => by rw [← hy']; exact getD_zero_of (by omega)
    have fin : ∀ (v w : Int), v = (o' : Int) → w % 4294967296 = ((D / 4294967296 ^ i % 4294967296 : Nat) : Int) → K (v, (i : Int) + 1, List.set (dl D i ++ List.replicate (a.length - i) 0) i (IntKind.wrap .u32 w)) = K ((o' : Int), ((i + 1 : Nat) : Int), dl D (i + 1) ++ List.replicate (a.length - (i + 1)) 0) := by
      intro v w hv hw
      rw [hv, wrap32, hw, hset]; rfl
    simp only [hx', hy', hl]
    rw [decide_eq_true (by omega : (i : Int) < a.length), cond_true]
    by_cases hib : i < b.length
    · rw [decide_eq_true (by omega : (i : Int) < b.length), cond_true, and_tr (inR_of (by omega) (by omega)), and_tr (inR_of (by omega) (by omega))]
      by_cases hlt : x.toNat < y.toNat + o
      · rw [decide_eq_true (by simp only [wrap64]; omega), cond_true, and_tr (inR_of (by omega) (by omega)), and_tr (decide_eq_true (by omega)), and_tr (fits_ok (by omega) (by omega))]
        rw [if_pos hlt] at hbs
        exact fin _ _ (by omega) (by rw [hdig]; simp only [wrap64]; omega)
      · rw [decide_eq_false (by simp only [wrap64]; omega), cond_false, and_tr (inR_of (by omega) (by omega)), and_tr (decide_eq_true (by omega)), and_tr (fits_ok (by omega) (by omega))]
        rw [if_neg hlt] at hbs
        exact fin _ _ (by omega) (by rw [hdig]; simp only [wrap64]; omega)
    · have hy1 := hy0 hib
      rw [decide_eq_false (by omega : ¬ (i : Int) < b.length), cond_false, and_tr (inR_of (by omega) (by omega))]
      by_cases hlt : x.toNat < y.toNat + o
      · rw [decide_eq_true (by simp only [wrap64]; omega), cond_true, and_tr (inR_of (by omega) (by omega)), and_tr (decide_eq_true (by omega)), and_tr (fits_ok (by omega) (by omega))]
        rw [if_pos hlt] at hbs
        exact fin _ _ (by omega) (by rw [hdig]; simp only [wrap64]; omega)
      · rw [decide_eq_false (by simp only [wrap64]; omega), cond_false, and_tr (inR_of (by omega) (by omega)), and_tr (decide_eq_true (by omega)), and_tr (fits_ok (by omega) (by omega))]
        rw [if_neg hlt] at hbs
        exact fin _ _ (by omega) (by rw [hdig]; simp only [wrap64]; omega)
  · simp only [st_z00_minus_0]
    rw [decide_eq_false (by omega : ¬ (a.length : Int) < a.length), cond_false, Nat.sub_self, List.replicate_zero, List.append_nil]
    have hS : D < 4294967296 ^ a.length := by have := mval_lt ha; simp only [D]; omega
    rw [law_cut_take _ (dl_inW D _) (by rw [dl_length]; omega) (by rw [dl_length]; omega), digs_dl hS]

end Go.Proofs.YtldpkhfffeddiaaGreat
end
section
namespace Go.Proofs.YtldpkhfffeddiaaGreat
open Go Go.Mach

/-! ### bits that do not meet -/
theorem bitsN_or_disj64 (a c s : Nat) (ha : a < 2 ^ s) (hlt : 2 ^ s * c + a < 18446744073709551616) : bitsN .or .u64 (a : Int) ((2 ^ s * c : Nat) : Int) = ((2 ^ s * c + a : Nat) : Int) := by
  unfold bitsN bitsI
  simp only [Option.getD_some]
  have e : ((BitVec.ofInt (IntKind.bits .u64) (a : Int)) ||| (BitVec.ofInt (IntKind.bits .u64) ((2 ^ s * c : Nat) : Int))).toNat = 2 ^ s * c + a := by
    show ((BitVec.ofInt 64 (a : Int)) ||| (BitVec.ofInt 64 ((2 ^ s * c : Nat) : Int))).toNat = _
    have h64 : (2 : Nat) ^ 64 = 18446744073709551616 := by decide
    rw [BitVec.toNat_or, BitVec.ofInt_natCast, BitVec.ofInt_natCast, BitVec.toNat_ofNat, BitVec.toNat_ofNat, Nat.mod_eq_of_lt (by omega), Nat.mod_eq_of_lt (by omega), Nat.or_comm, ← Nat.two_pow_add_eq_or_of_lt ha]
  rw [e, wrap_u64 _ hlt]
theorem wrap_u32 (n : Nat) (h : n < 4294967296) : IntKind.wrap .u32 (n : Int) = n := by rw [wrap32]; omega
theorem bitsN_or_disj32 (a c s : Nat) (ha : a < 2 ^ s) (hlt : 2 ^ s * c + a < 4294967296) : bitsN .or .u32 (a : Int) ((2 ^ s * c : Nat) : Int) = ((2 ^ s * c + a : Nat) : Int) := by
  unfold bitsN bitsI
  simp only [Option.getD_some]
  have e : ((BitVec.ofInt (IntKind.bits .u32) (a : Int)) ||| (BitVec.ofInt (IntKind.bits .u32) ((2 ^ s * c : Nat) : Int))).toNat = 2 ^ s * c + a := by
    show ((BitVec.ofInt 32 (a : Int)) ||| (BitVec.ofInt 32 ((2 ^ s * c : Nat) : Int))).toNat = _
    have h32 : (2 : Nat) ^ 32 = 4294967296 := by decide
    rw [BitVec.toNat_or, BitVec.ofInt_natCast, BitVec.ofInt_natCast, BitVec.toNat_ofNat, BitVec.toNat_ofNat, Nat.mod_eq_of_lt (by omega), Nat.mod_eq_of_lt (by omega), Nat.or_comm, ← Nat.two_pow_add_eq_or_of_lt ha]
  rw [e, wrap_u32 _ hlt]

/-! ### comparisons -/
def cmpN (x y : Nat) : Int := if x < y then -1 else if x = y then 0 else 1
theorem cmp_lt {P A B x y : Nat} (hA : A < P) (h : x < y) : cmpN (A + P * x) (B + P * y) = -1 := by
  have : P * (x + 1) ≤ P * y := Nat.mul_le_mul_left P h
  rw [Nat.mul_add] at this
  unfold cmpN
  rw [if_pos (by omega)]
theorem cmp_gt {P A B x y : Nat} (hB : B < P) (h : y < x) : cmpN (A + P * x) (B + P * y) = 1 := by
  have : P * (y + 1) ≤ P * x := Nat.mul_le_mul_left P h
  rw [Nat.mul_add] at this
  unfold cmpN
  rw [if_neg (by omega), if_neg (by omega)]
theorem cmp_same {P A B x : Nat} : cmpN (A + P * x) (B + P * x) = cmpN A B := by
  unfold cmpN
  by_cases h3 : A < B
  · rw [if_pos h3, if_pos (by omega)]
  · by_cases h4 : A = B
    · subst h4; simp
    · rw [if_neg h3, if_neg h4, if_neg (by omega), if_neg (by omega)]
theorem compare_loop {N : Nat} (a b : List Int) (ha : InW a) (hb : InW b) (hl : a.length = b.length) (hs : a.length < 9223372036854775807) (k : Int → Bool) :
    ∀ n, n ≤ a.length → ∀ M, n < M → iterG M (st_q136 N a b (fun t4 => k t4) (k 0)) ((n : Int) - 1) = k (cmpN (mval (a.take n)) (mval (b.take n))) := by
  intro n
  induction n with
  | zero =>
    intro _ M hM
    cases M with
    | zero => omega
    | succ M =>
      show st_q136 N a b _ _ ((0 : Nat) - 1 : Int) _ = _
      simp [st_q136, cmpN, mval]
  | succ n ih =>
    intro hn M hM
    cases M with
    | zero => omega
    | succ M =>
      show st_q136 N a b _ _ (((n + 1 : Nat) : Int) - 1) (iterG M _) = _
      have e : (((n + 1 : Nat) : Int) - 1) = (n : Int) := by omega
      have hx := ha.at (i := n)
      have hy := hb.at (i := n)
      have hA := mval_take_all (m := a) n
      have hB := mval_take_all (m := b) n
      have hAl := mval_take_lt ha n
      have hBl := mval_take_lt hb n
      rw [e]
      simp only [st_q136, Int.toNat_natCast]
      rw [hA, hB, decide_eq_true (by omega : (n : Int) ≥ 0), cond_true, and_tr (inR_of (by omega) (by omega)), and_tr (inR_of (by omega) (by omega)), and_tr (inR_of (by omega) (by omega)), and_tr (inR_of (by omega) (by omega)), and_tr (fits_ok (by omega) (by omega)), ih (by omega) M (by omega)]
      by_cases h1 : a.getD n 0 < b.getD n 0
      · rw [decide_eq_true h1, cond_true, cmp_lt hAl (by omega)]
      · rw [decide_eq_false h1, cond_false]
        by_cases h2 : a.getD n 0 > b.getD n 0
        · rw [decide_eq_true h2, cond_true, cmp_gt hBl (by omega)]
        · rw [decide_eq_false h2, cond_false]
          have : a.getD n 0 = b.getD n 0 := by omega
          rw [this, cmp_same]
theorem digs_length_le {x y : Nat} (h : x ≤ y) : (digs x).length ≤ (digs y).length := by
  induction y using Nat.strongRecOn generalizing x with
  | ind y ih =>
    by_cases hx : x = 0
    · subst hx; rw [digs_zero]; simp
    · rw [digs_pos hx, digs_pos (by omega : y ≠ 0)]
      simp only [List.length_cons]
      have := ih (y / 4294967296) (by omega) (x := x / 4294967296) (Nat.div_le_div_right h)
      omega
theorem law_compare {N : Nat} (x y : Nat) (hx : Short N (digs x)) (hy : Short N (digs y)) (k : Int → Bool) : s_q23 N (digs x) (digs y) k = k (cmpN x y) := by
  unfold s_q23 G_q23
  obtain ⟨x1, x2⟩ := hx
  obtain ⟨y1, y2⟩ := hy
  by_cases h : (digs x).length = (digs y).length
  · have e : (((digs x).length : Int) != (digs y).length) = false := by rw [h]; simp
    rw [e, cond_false, and_tr (fits_ok (by omega) (by omega)), compare_loop (digs x) (digs y) (digs_inW x) (digs_inW y) h (by omega) k _ (Nat.le_refl _) N (by omega), List.take_length, h, List.take_length, mval_digs, mval_digs]
  · have e : (((digs x).length : Int) != (digs y).length) = true := by simp; omega
    rw [e, cond_true]
    by_cases h1 : (digs x).length < (digs y).length
    · rw [decide_eq_true (by omega), cond_true]
      have : x < y := by
        rcases Nat.lt_or_ge x y with h2 | h2
        · exact h2
        · have := digs_length_le h2; omega
      unfold cmpN; rw [if_pos this]
    · rw [decide_eq_false (by omega), cond_false]
      have : ¬ x ≤ y := fun h2 => by have := digs_length_le h2; omega
      unfold cmpN; rw [if_neg (by omega), if_neg (by omega)]

/-! ### lengths -/
def bl (n : Nat) : Nat := if n = 0 then 0 else n.log2 + 1
theorem bl_shift {n : Nat} (j : Nat) (h : 2 ^ j ≤ n) : bl n = j + bl (n / 2 ^ j) := by
  have hp : 0 < 2 ^ j := Nat.two_pow_pos j
  have h0 : n ≠ 0 := by omega
  have h1 : n / 2 ^ j ≠ 0 := by
    have := Nat.div_pos h hp
    omega
  unfold bl
  rw [if_neg h0, if_neg h1]
  have hj : j ≤ n.log2 := (Nat.le_log2 h0).2 h
  have : (n / 2 ^ j).log2 = n.log2 - j := by
    rw [Nat.log2_eq_iff h1]
    have h2 := Nat.log2_self_le h0
    have h3 : n < 2 ^ (n.log2 + 1) := Nat.lt_log2_self
    constructor
    · rw [Nat.le_div_iff_mul_le hp, ← Nat.pow_add]
      rw [show n.log2 - j + j = n.log2 by omega]; exact h2
    · rw [Nat.div_lt_iff_lt_mul hp, ← Nat.pow_add]
      rw [show n.log2 - j + 1 + j = n.log2 + 1 by omega]; exact h3
  omega
theorem tab_bl : ∀ i : Fin 256, strTab_11c1601c.getD i.val 0 = (bl i.val : Int) := by decide +kernel
theorem tab_at {i : Nat} (h : i < 256) : strTab_11c1601c.getD i 0 = (bl i : Int) := tab_bl ⟨i, h⟩
theorem bl_small {n : Nat} (h : n < 256) : bl n ≤ 8 := by
  unfold bl
  split
  · omega
  · rename_i h0
    have := (Nat.log2_lt h0).2 (by simpa using h : n < 2 ^ 8)
    omega
theorem wrap8 (z : Int) : IntKind.wrap .u8 z = z % 256 := by rfl
theorem fdiv8 (z : Int) : Int.fdiv z (2 ^ 8) = z / 256 := by rw [Int.fdiv_eq_ediv_of_nonneg _ (by decide)]; rfl
theorem fdiv16 (z : Int) : Int.fdiv z (2 ^ 16) = z / 65536 := by rw [Int.fdiv_eq_ediv_of_nonneg _ (by decide)]; rfl
theorem law_Len32 (N : Nat) (x : Nat) (h : x < 4294967296) (k : Int → Bool) : s_q63 N (x : Int) k = k (bl x : Int) := by
  unfold s_q63 G_q63
  simp only [fdiv8, fdiv16, wrap8]
  have key : ∀ (z : Int) (m : Nat), z = (m : Int) → m < 256 → ∀ c : Nat, c ≤ 32 → ((inR z 256) && ((fits .i64 (List.getD strTab_11c1601c (Int.toNat z) 0)) && ((fits .i64 ((c : Int) + (List.getD strTab_11c1601c (Int.toNat z) 0))) && k ((c : Int) + List.getD strTab_11c1601c (Int.toNat z) 0)))) = k ((c + bl m : Nat) : Int) := by
    intro z m hz hm c hc
    subst hz
    have := bl_small hm
    rw [Int.toNat_natCast, tab_at hm, and_tr (inR_of (by omega) (by omega)), and_tr (fits_ok (by omega) (by omega)), and_tr (fits_ok (by omega) (by omega))]
    rfl
  by_cases h16 : 65536 ≤ x
  · rw [decide_eq_true (by omega : (x : Int) ≥ 65536), cond_true]
    have e16 := bl_shift (n := x) 16 (by simpa using h16)
    have p16 : (2 : Nat) ^ 16 = 65536 := by decide
    have p8 : (2 : Nat) ^ 8 = 256 := by decide
    rw [p16] at e16
    by_cases h8 : 256 ≤ x / 65536
    · rw [decide_eq_true (by omega : (x : Int) / 65536 ≥ 256), cond_true]
      have e8 := bl_shift (n := x / 65536) 8 (by simpa using h8)
      rw [p8] at e8
      have := key ((x : Int) / 65536 / 256 % 256) (x / 65536 / 256) (by omega) (by omega) 24 (by omega)
      rw [show ((24 : Nat) : Int) = 24 from rfl] at this
      rw [this]; congr 2; omega
    · rw [decide_eq_false (by omega : ¬ (x : Int) / 65536 ≥ 256), cond_false]
      have := key ((x : Int) / 65536 % 256) (x / 65536) (by omega) (by omega) 16 (by omega)
      rw [show ((16 : Nat) : Int) = 16 from rfl] at this
      rw [this]; congr 2; omega
  · rw [decide_eq_false (by omega : ¬ (x : Int) ≥ 65536), cond_false]
    by_cases h8 : 256 ≤ x
    · rw [decide_eq_true (by omega : (x : Int) ≥ 256), cond_true]
      have e8 := bl_shift (n := x) 8 (by simpa using h8)
      rw [show (2 : Nat) ^ 8 = 256 by decide] at e8
      have := key ((x : Int) / 256 % 256) (x / 256) (by omega) (by omega) 8 (by omega)
      rw [show ((8 : Nat) : Int) = 8 from rfl] at this
      rw [this]; congr 2; omega
    · rw [decide_eq_false (by omega : ¬ (x : Int) ≥ 256), cond_false]
      have := key ((x : Int) % 256) x (by omega) (by omega) 0 (by omega)
      rw [show ((0 : Nat) : Int) = 0 from rfl] at this
      rw [this]; congr 2; omega
theorem digs_length_bl : ∀ n, n ≠ 0 → bl n = 32 * ((digs n).length - 1) + bl ((digs n).getD ((digs n).length - 1) 0).toNat ∧ 0 < (digs n).length := by
  intro n
  induction n using Nat.strongRecOn with
  | ind n ih =>
    intro h
    rw [digs_pos h]
    by_cases h1 : n / 4294967296 = 0
    · rw [h1, digs_zero]
      have : n % 4294967296 = n := Nat.mod_eq_of_lt (by omega)
      simp [this]
    · obtain ⟨i1, i2⟩ := ih (n / 4294967296) (by omega) h1
      have e := bl_shift (n := n) 32 (by have : (2 : Nat) ^ 32 = 4294967296 := by decide
                                         omega)
      rw [show (2 : Nat) ^ 32 = 4294967296 by decide] at e
      refine ⟨?_, by simp⟩
      have e2 : (((n % 4294967296 : Nat) : Int) :: digs (n / 4294967296)).getD ((((n % 4294967296 : Nat) : Int) :: digs (n / 4294967296)).length - 1) 0 = (digs (n / 4294967296)).getD ((digs (n / 4294967296)).length - 1) 0 := by
        simp only [List.length_cons, Nat.add_sub_cancel]
        generalize digs (n / 4294967296) = l at i2 ⊢
        cases l with
        | nil => simp at i2
        | cons y l => simp
      rw [e2, e, i1]
      simp only [List.length_cons]
      omega
theorem law_BitLen {N : Nat} (g : Bool) (n : Nat) (hs : Short N (digs n)) (k : Int → Bool) : s_q1 N g (digs n) k = k (bl n : Int) := by
  unfold s_q1 G_q1
  obtain ⟨s1, s2⟩ := hs
  by_cases h : n = 0
  · subst h; rw [digs_zero]; rfl
  · obtain ⟨e1, e2⟩ := digs_length_bl n h
    have e0 : (((digs n).length : Int) == 0) = false := by simp; intro h'; rw [h'] at e2; simp at e2
    have e3 : Int.toNat (((digs n).length : Int) - 1) = (digs n).length - 1 := by omega
    have hw := (digs_inW n).at (i := (digs n).length - 1)
    have hb : bl ((digs n).getD ((digs n).length - 1) 0).toNat ≤ 32 := by
      unfold bl; split
      · omega
      · rename_i h0
        have := (Nat.log2_lt h0).2 (by have : (2 : Nat) ^ 32 = 4294967296 := by decide
                                       omega : ((digs n).getD ((digs n).length - 1) 0).toNat < 2 ^ 32)
        omega
    have e4 : (digs n).getD ((digs n).length - 1) 0 = ((((digs n).getD ((digs n).length - 1) 0).toNat : Nat) : Int) := by omega
    rw [e0, cond_false, and_tr (fits_ok (by omega) (by omega)), and_tr (fits_ok (by omega) (by omega)), and_tr (fits_ok (by omega) (by omega)), and_tr (inR_of (by omega) (by omega)), e3, e4, law_Len32 N _ (by omega), and_tr (fits_ok (by omega) (by omega))]
    congr 1; omega

end Go.Proofs.YtldpkhfffeddiaaGreat
end
section
namespace Go.Proofs.YtldpkhfffeddiaaGreat
open Go Go.Mach

theorem dl_of_zero : ∀ (w X : Nat), dl (4294967296 ^ w * X) w = List.replicate w 0 := by
  intro w
  have key : ∀ n, n ≤ w → ∀ X, dl (4294967296 ^ w * X) n = List.replicate n 0 := by
    intro n
    induction n with
    | zero => intro _ X; rfl
    | succ n ih =>
      intro hn X
      rw [dl, ih (by omega), List.replicate_succ']
      have e : 4294967296 ^ w * X = 4294967296 ^ n * (4294967296 * (4294967296 ^ (w - n - 1) * X)) := by
        rw [← Nat.mul_assoc, ← Nat.mul_assoc, ← Nat.pow_succ, ← Nat.pow_add]
        congr 2; omega
      rw [e, Nat.mul_div_cancel_left _ (pow_pos32 n), Nat.mul_mod_right]
      rfl
  exact key w (Nat.le_refl _)
theorem pow2_32 (n : Nat) : 2 ^ n = 4294967296 ^ (n / 32) * 2 ^ (n % 32) := by
  have : (4294967296 : Nat) = 2 ^ 32 := by decide
  rw [this, ← Nat.pow_mul, ← Nat.pow_add]
  congr 1; omega
theorem set_append_at {α : Type} (xs : List α) (y : α) (ys : List α) (z : α) (n : Nat) (h : n = xs.length) : (xs ++ y :: ys).set n z = xs ++ z :: ys := by
  subst h; rw [List.set_append_right _ _ (Nat.le_refl _), Nat.sub_self]; rfl
theorem getD_append_at {xs : List Int} {y : Int} {ys : List Int} {n : Nat} (h : n = xs.length) : (xs ++ y :: ys).getD n 0 = y := by
  subst h; rw [List.getD_eq_getElem?_getD, List.getElem?_append_right (Nat.le_refl _), Nat.sub_self]; rfl

/-- a magnitude times a power of two -/
theorem law_left {N : Nat} (m : List Int) (hm : InW m) (n : Nat) (hn : n < 4294967296) (hN : m.length + n / 32 + 4 < N) (hs : m.length ≤ 1099511627776) (k : List Int → Bool) : s_q79 N m n k = k (digs (mval m * 2 ^ n)) := by
  unfold s_q79 G_q79
  by_cases h0 : m.length = 0
  · have : m = [] := List.length_eq_zero_iff.1 h0
    subst this
    simp [mval, digs_zero]
  · have e0 : ((m.length : Int) == 0) = false := by simp; intro h; subst h; simp at h0
    have ew : IntKind.wrap .u64 (Int.tdiv (n : Int) 32) = ((n / 32 : Nat) : Int) := by
      rw [wrap64, Int.tdiv_eq_ediv_of_nonneg (by omega)]; omega
    have es : Int.tmod (n : Int) 32 = ((n % 32 : Nat) : Int) := by rw [Int.tmod_eq_emod_of_nonneg (by omega)]; rfl
    rw [e0, cond_false, ew, es]
    generalize hw : n / 32 = w at *
    generalize hsh : n % 32 = s at *
    have hs32 : s < 32 := by omega
    have hp2 : 2 ^ n = 4294967296 ^ w * 2 ^ s := by rw [pow2_32, hw, hsh]
    have hs0 : 0 < 2 ^ s := Nat.two_pow_pos s
    have hs1 : 2 ^ s * 2 ^ (32 - s) = 4294967296 := by rw [← Nat.pow_add, show s + (32 - s) = 32 by omega]
    have hs2 : 2 ^ s ≤ 2147483648 := by
      have : 2 ^ s ≤ 2 ^ 31 := Nat.pow_le_pow_right (by decide) (by omega)
      simpa using this
    have elen : Int.toNat (((w : Nat) : Int) + (m.length : Int) + 1) = w + m.length + 1 := by omega
    rw [and_tr (fits_ok (by omega) (by omega)), and_tr (fits_ok (by omega) (by omega)), and_tr (fits_ok (by omega) (by omega)), and_tr (mkOk_ok (by omega) (by omega) (by omega) (by omega)), elen]
    let V := mval m * 2 ^ n
    let X := mval m * 2 ^ s
    have hVX : V = 4294967296 ^ w * X := by simp only [V, X]; rw [hp2, Nat.mul_left_comm]
    let T := fun i => mval (m.take i) * 2 ^ s
    let c := fun i => T i / 4294967296 ^ i
    refine iterG_from0 (fun i => ((i : Int), dl V (w + i) ++ ((c i : Nat) : Int) :: List.replicate (m.length - i) 0)) m.length ?_ (by omega) (fun i hi K => ?_) (fun K => ?_)
    · congr 1
      show List.replicate (w + m.length + 1) (0 : Int) = dl V w ++ ((c 0 : Nat) : Int) :: List.replicate m.length 0
      rw [hVX, dl_of_zero]
      have hc0 : c 0 = 0 := by simp [c, T, mval]
      rw [hc0]
      have : w + m.length + 1 = w + (m.length + 1) := by omega
      rw [this, ← List.replicate_append_replicate, List.replicate_succ]; rfl
    · have hx := hm.at (i := i)
      have hT : T (i + 1) = T i + 4294967296 ^ i * ((m.getD i 0).toNat * 2 ^ s) := by
        simp only [T, mval_take_all, Nat.add_mul, Nat.mul_assoc]
      have hq : T (i + 1) / 4294967296 ^ i = c i + (m.getD i 0).toNat * 2 ^ s := by rw [hT, div_pow_add]
      have hci : c i < 2 ^ s := by
        simp only [c, T]
        rw [Nat.div_lt_iff_lt_mul (pow_pos32 i), Nat.mul_comm]
        exact Nat.mul_lt_mul_of_pos_left (mval_take_lt hm i) hs0
      have hc1 : c (i + 1) = (c i + (m.getD i 0).toNat * 2 ^ s) / 4294967296 := by
        rw [← hq]; simp only [c]; rw [Nat.pow_succ, Nat.div_div_eq_div_mul]
      have hdig : V / 4294967296 ^ (w + i) % 4294967296 = (c i + (m.getD i 0).toNat * 2 ^ s) % 4294967296 := by
        rw [← hq, hVX, Nat.pow_add, ← Nat.div_div_eq_div_mul, Nat.mul_div_cancel_left _ (pow_pos32 w)]
        obtain ⟨R, hR⟩ := mval_split_ge m (i + 1)
        refine digit_of (R := R * 2 ^ s) ?_
        simp only [X, T]
        rw [hR, Nat.add_mul, Nat.mul_assoc]
      have hrep : List.replicate (m.length - i) (0 : Int) = 0 :: List.replicate (m.length - (i + 1)) 0 := by
        rw [show m.length - i = (m.length - (i + 1)) + 1 by omega, List.replicate_succ]
      have hdl := dl_length V (w + i)
      have ei : Int.toNat ((w : Int) + (i : Int)) = w + i := by omega
      have ei1 : Int.toNat ((w : Int) + (i : Int) + 1) = w + i + 1 := by omega
      have emin : min s 64 = s := by omega
      simp only [st_z00_left_0, Int.toNat_natCast, ei, ei1, emin]
      rw [hrep, getD_append_at hdl.symm, set_append_at _ _ _ _ _ hdl.symm]
      have et : IntKind.wrap .u64 (IntKind.wrap .u64 (m.getD i 0) * 2 ^ s) = (((m.getD i 0).toNat * 2 ^ s : Nat) : Int) := by
        have hxs : (m.getD i 0).toNat * 2 ^ s < 4294967296 * 2147483648 := Nat.mul_lt_mul_of_lt_of_le (by omega) hs2 (by decide)
        have e1 : IntKind.wrap .u64 (m.getD i 0) = (((m.getD i 0).toNat : Nat) : Int) := by rw [wrap64]; omega
        have e2 : (((m.getD i 0).toNat : Nat) : Int) * 2 ^ s = (((m.getD i 0).toNat * 2 ^ s : Nat) : Int) := by simp
        rw [e1, e2, wrap64]; omega
      rw [et]
      generalize hxx : (m.getD i 0).toNat = x at *
      have hx32 : x < 4294967296 := by omega
      have hlow : x * 2 ^ s % 4294967296 = 2 ^ s * (x % 2 ^ (32 - s)) := by
        have e : x * 2 ^ s % (2 ^ s * 2 ^ (32 - s)) = 2 ^ s * (x % 2 ^ (32 - s)) := by rw [Nat.mul_comm x]; exact Nat.mul_mod_mul_left _ _ _
        rwa [hs1] at e
      have hsum : 2 ^ s * (x % 2 ^ (32 - s)) + c i < 4294967296 := by
        have h1 : x % 2 ^ (32 - s) + 1 ≤ 2 ^ (32 - s) := Nat.mod_lt _ (Nat.two_pow_pos _)
        have h2 := Nat.mul_le_mul_left (2 ^ s) h1
        rw [hs1, Nat.mul_add] at h2
        omega
      have eor : bitsN .or .u32 ((c i : Nat) : Int) (IntKind.wrap .u32 ((x * 2 ^ s : Nat) : Int)) = ((V / 4294967296 ^ (w + i) % 4294967296 : Nat) : Int) := by
        have e1 : IntKind.wrap .u32 ((x * 2 ^ s : Nat) : Int) = ((2 ^ s * (x % 2 ^ (32 - s)) : Nat) : Int) := by rw [← hlow, wrap32]; omega
        rw [e1, bitsN_or_disj32 _ _ s hci hsum, hdig]
        omega
      have ehi : IntKind.wrap .u32 (Int.fdiv ((x * 2 ^ s : Nat) : Int) (2 ^ 32)) = ((c (i + 1) : Nat) : Int) := by
        have hxs : x * 2 ^ s < 4294967296 * 2147483648 := Nat.mul_lt_mul_of_lt_of_le hx32 hs2 (by decide)
        rw [fdiv32, wrap32, hc1]
        omega
      rw [eor, ehi]
      have hl1 : ∀ (a b : Int) (ys : List Int), (dl V (w + i) ++ a :: b :: ys).length = w + i + 2 + ys.length := by intro a b ys; simp [hdl]; omega
      have hset2 : (dl V (w + i) ++ ((V / 4294967296 ^ (w + i) % 4294967296 : Nat) : Int) :: 0 :: List.replicate (m.length - (i + 1)) 0).set (w + i + 1) ((c (i + 1) : Nat) : Int) = dl V (w + (i + 1)) ++ ((c (i + 1) : Nat) : Int) :: List.replicate (m.length - (i + 1)) 0 := by
        have : dl V (w + i) ++ ((V / 4294967296 ^ (w + i) % 4294967296 : Nat) : Int) :: 0 :: List.replicate (m.length - (i + 1)) 0 = dl V (w + (i + 1)) ++ 0 :: List.replicate (m.length - (i + 1)) 0 := by
          rw [← Nat.add_assoc, dl]; simp
        rw [this]
        exact set_append_at _ _ _ _ _ (by rw [dl_length]; omega)
      rw [hset2, hl1, hl1]
      simp only [List.length_replicate]
      rw [decide_eq_true (by omega : (i : Int) < m.length), cond_true, and_tr (inR_of (by omega) (by omega)), and_tr (decide_eq_true (by omega)), and_tr (fits_ok (by omega) (by omega)), and_tr (inR_of (by omega) (by omega)), and_tr (decide_eq_true (by omega)), and_tr (inR_of (by omega) (by omega)), and_tr (decide_eq_true (by omega)),
        and_tr (fits_ok (by omega) (by omega)), and_tr (fits_ok (by omega) (by omega)), and_tr (inR_of (by omega) (by omega)), and_tr (decide_eq_true (by omega)), and_tr (fits_ok (by omega) (by omega))]
      rfl
    · simp only [st_z00_left_0]
      rw [decide_eq_false (by omega : ¬ (m.length : Int) < m.length), cond_false, Nat.sub_self, List.replicate_zero]
      have hV : V < 4294967296 ^ (w + m.length + 1) := by
        have h1 := mval_lt hm
        simp only [V]
        rw [hp2, Nat.pow_succ, Nat.pow_add, Nat.mul_left_comm, Nat.mul_assoc]
        refine Nat.mul_lt_mul_of_pos_left ?_ (pow_pos32 w)
        exact Nat.mul_lt_mul_of_lt_of_le h1 (by omega) (by decide)
      have hT : T m.length = X := by simp only [T, X]; rw [List.take_length]
      have hend : dl V (w + m.length) ++ [((c m.length : Nat) : Int)] = dl V (w + m.length + 1) := by
        rw [dl]
        have : c m.length = V / 4294967296 ^ (w + m.length) % 4294967296 := by
          simp only [c]
          rw [hT, hVX, Nat.pow_add, ← Nat.div_div_eq_div_mul, Nat.mul_div_cancel_left _ (pow_pos32 w)]
          rw [Nat.mod_eq_of_lt]
          rw [Nat.div_lt_iff_lt_mul (pow_pos32 _), Nat.mul_comm]
          have h1 := mval_lt hm
          simp only [X]
          exact Nat.mul_lt_mul_of_lt_of_le h1 (by omega) (by decide)
        rw [this]
      rw [hend, law_cut_take _ (dl_inW V _) (by rw [dl_length]; omega) (by rw [dl_length]; omega), digs_dl hV]

end Go.Proofs.YtldpkhfffeddiaaGreat
end
section
namespace Go.Proofs.YtldpkhfffeddiaaGreat
open Go Go.Mach

/-- a magnitude over words: its next two words, and what is above -/
theorem div_words {m : List Int} (hm : InW m) (j : Nat) : ∃ R, mval m / 4294967296 ^ j = (m.getD j 0).toNat + 4294967296 * (m.getD (j + 1) 0).toNat + 4294967296 * 4294967296 * R := by
  obtain ⟨R, hR⟩ := mval_split_ge m (j + 2)
  refine ⟨R, ?_⟩
  rw [hR, mval_take_all, mval_take_all]
  simp only [Nat.pow_succ]
  have e : mval (m.take j) + 4294967296 ^ j * (m.getD j 0).toNat + 4294967296 ^ j * 4294967296 * (m.getD (j + 1) 0).toNat + 4294967296 ^ j * 4294967296 * 4294967296 * R
      = mval (m.take j) + 4294967296 ^ j * ((m.getD j 0).toNat + 4294967296 * (m.getD (j + 1) 0).toNat + 4294967296 * 4294967296 * R) := by
    rw [Nat.mul_add, Nat.mul_add, Nat.mul_assoc, Nat.mul_assoc, Nat.mul_assoc, Nat.mul_assoc]; omega
  rw [e, div_pow_add, Nat.div_eq_of_lt (mval_take_lt hm j), Nat.zero_add]
theorem law_right {N : Nat} (m : List Int) (hm : InW m) (n : Nat) (hn : n < 4294967296) (hN : Short N m) (k : List Int → Bool) : s_q66 N m n k = k (digs (mval m / 2 ^ n)) := by
  unfold s_q66 G_q66
  obtain ⟨hN1, hN2⟩ := hN
  have ew : IntKind.wrap .u64 (Int.tdiv (n : Int) 32) = ((n / 32 : Nat) : Int) := by
    rw [wrap64, Int.tdiv_eq_ediv_of_nonneg (by omega)]; omega
  have es : Int.tmod (n : Int) 32 = ((n % 32 : Nat) : Int) := by rw [Int.tmod_eq_emod_of_nonneg (by omega)]; rfl
  rw [ew, es, and_tr (fits_ok (by omega) (by omega))]
  generalize hw : n / 32 = w at *
  generalize hsh : n % 32 = s at *
  have hs32 : s < 32 := by omega
  have hp2 : 2 ^ n = 4294967296 ^ w * 2 ^ s := by rw [pow2_32, hw, hsh]
  have hs0 : 0 < 2 ^ s := Nat.two_pow_pos s
  by_cases h0 : m.length ≤ w
  · rw [decide_eq_true (by omega : ((w : Nat) : Int) ≥ m.length), cond_true]
    have h1 := mval_lt hm
    have h2 : 4294967296 ^ m.length ≤ 4294967296 ^ w := Nat.pow_le_pow_right (by decide) h0
    have h3 : mval m / 2 ^ n = 0 := by
      rw [hp2]
      refine Nat.div_eq_of_lt ?_
      have : 4294967296 ^ w * 1 ≤ 4294967296 ^ w * 2 ^ s := Nat.mul_le_mul_left _ hs0
      omega
    rw [h3, digs_zero]
  · rw [decide_eq_false (by omega : ¬ ((w : Nat) : Int) ≥ m.length), cond_false]
    let V := mval m / 2 ^ n
    have elen : Int.toNat ((m.length : Int) - ((w : Nat) : Int)) = m.length - w := by omega
    rw [elen, and_tr (fits_ok (by omega) (by omega)), and_tr (mkOk_ok (by omega) (by omega) (by omega) (by omega))]
    generalize hL : m.length - w = L at *
    refine iterG_from0 (fun i => ((i : Int), dl V i ++ List.replicate (L - i) 0)) L (by simp [dl]) (by omega) (fun i hi K => ?_) (fun K => ?_)
    · have hx := hm.at (i := w + i)
      have hy := hm.at (i := w + i + 1)
      have hset := dl_set V i L (by omega)
      have hl : (dl V i ++ List.replicate (L - i) 0).length = L := by simp [dl_length]; omega
      have ei : Int.toNat ((w : Int) + (i : Int)) = w + i := by omega
      have ei1 : Int.toNat ((w : Int) + (i : Int) + 1) = w + i + 1 := by omega
      have emin : min s 64 = s := by omega
      obtain ⟨R, hR⟩ := div_words hm (w + i)
      have hdig : V / 4294967296 ^ i % 4294967296 = ((m.getD (w + i) 0).toNat + 4294967296 * (m.getD (w + i + 1) 0).toNat) / 2 ^ s % 4294967296 := by
        simp only [V]
        rw [hp2, Nat.div_div_eq_div_mul]
        have e1 : 4294967296 ^ w * 2 ^ s * 4294967296 ^ i = 4294967296 ^ (w + i) * 2 ^ s := by rw [Nat.pow_add, Nat.mul_assoc, Nat.mul_comm (2 ^ s), ← Nat.mul_assoc]
        rw [e1, ← Nat.div_div_eq_div_mul, hR]
        have e2 : 4294967296 * 4294967296 * R = 2 ^ s * (4294967296 * (2 ^ (32 - s) * R)) := by
          have hs1 : 2 ^ s * 2 ^ (32 - s) = 4294967296 := by rw [← Nat.pow_add, show s + (32 - s) = 32 by omega]
          rw [Nat.mul_left_comm (2 ^ s), ← Nat.mul_assoc (2 ^ s), hs1, Nat.mul_assoc]
        rw [e2, Nat.add_mul_div_left _ _ hs0, Nat.add_mul_mod_self_left]
      have hfin : ∀ z : Int, z = (((m.getD (w + i) 0).toNat + 4294967296 * (m.getD (w + i + 1) 0).toNat : Nat) : Int) → IntKind.wrap .u32 (Int.fdiv z (2 ^ s)) = ((V / 4294967296 ^ i % 4294967296 : Nat) : Int) := by
        intro z hz
        have e : (2 : Int) ^ s = ((2 ^ s : Nat) : Int) := by simp
        rw [hdig, hz, e, Int.fdiv_eq_ediv_of_nonneg _ (by omega), wrap32]
        rfl
      simp only [st_z00_right_0, Int.toNat_natCast, ei, ei1, emin, hl]
      rw [decide_eq_true (by omega : (i : Int) < L), cond_true, and_tr (fits_ok (by omega) (by omega)), and_tr (inR_of (by omega) (by omega)), and_tr (fits_ok (by omega) (by omega)), and_tr (fits_ok (by omega) (by omega))]
      by_cases hlast : w + i + 1 < m.length
      · rw [decide_eq_true (by omega : (w : Int) + (i : Int) + 1 < m.length), cond_true, and_tr (fits_ok (by omega) (by omega)), and_tr (fits_ok (by omega) (by omega)), and_tr (inR_of (by omega) (by omega)), and_tr (decide_eq_true (by omega)), and_tr (inR_of (by omega) (by omega)), and_tr (decide_eq_true (by omega)), and_tr (fits_ok (by omega) (by omega))]
        have e1 : IntKind.wrap .u64 (m.getD (w + i) 0) = (((m.getD (w + i) 0).toNat : Nat) : Int) := by rw [wrap64]; omega
        have e2 : IntKind.wrap .u64 (IntKind.wrap .u64 (m.getD (w + i + 1) 0) * 2 ^ 32) = ((2 ^ 32 * (m.getD (w + i + 1) 0).toNat : Nat) : Int) := by
          have : (2 : Int) ^ 32 = 4294967296 := by decide
          have : (2 : Nat) ^ 32 = 4294967296 := by decide
          rw [wrap64, wrap64]; omega
        have p32 : (2 : Nat) ^ 32 = 4294967296 := by decide
        rw [e1, e2, bitsN_or_disj64 _ _ 32 (by omega) (by omega), hfin _ (by omega), hset]
        rfl
      · rw [decide_eq_false (by omega : ¬ (w : Int) + (i : Int) + 1 < m.length), cond_false, and_tr (decide_eq_true (by omega)), and_tr (inR_of (by omega) (by omega)), and_tr (decide_eq_true (by omega)), and_tr (fits_ok (by omega) (by omega))]
        have hz : m.getD (w + i + 1) 0 = 0 := getD_zero_of (by omega)
        have e1 : IntKind.wrap .u64 (m.getD (w + i) 0) = (((m.getD (w + i) 0).toNat : Nat) : Int) := by rw [wrap64]; omega
        rw [e1, hfin _ (by rw [hz]; simp), hset]
        rfl
    · simp only [st_z00_right_0]
      have hl : (dl V L ++ List.replicate (L - L) 0).length = L := by simp [dl_length]
      rw [decide_eq_false (by omega : ¬ ((L : Nat) : Int) < (((dl V L ++ List.replicate (L - L) (0 : Int)).length : Nat) : Int)), cond_false, Nat.sub_self, List.replicate_zero, List.append_nil]
      have hV : V < 4294967296 ^ L := by
        have h1 := mval_lt hm
        simp only [V]
        rw [Nat.div_lt_iff_lt_mul (Nat.two_pow_pos n), hp2, ← Nat.mul_assoc, ← Nat.pow_add, show L + w = m.length by omega]
        have : 4294967296 ^ m.length * 1 ≤ 4294967296 ^ m.length * 2 ^ s := Nat.mul_le_mul_left _ hs0
        omega
      rw [law_cut_take _ (dl_inW V _) (by rw [dl_length]; omega) (by rw [dl_length]; omega), digs_dl hV]

/-! ### the numbers: a sign, and words -/
theorem law_words {N : Nat} (n : Nat) (hn : n < 18446744073709551616) (hN : 4 < N) (k : List Int → Bool) : s_q49 N n k = k (digs n) := by
  unfold s_q49 G_q49
  have hw : InW [IntKind.wrap .u32 (n : Int), IntKind.wrap .u32 (Int.fdiv (n : Int) (2 ^ 32))] := by
    intro x hx
    simp only [wrap32, fdiv32, List.mem_cons, List.not_mem_nil, or_false] at hx
    rcases hx with rfl | rfl <;> omega
  have hv : mval [IntKind.wrap .u32 (n : Int), IntKind.wrap .u32 (Int.fdiv (n : Int) (2 ^ 32))] = n := by
    simp only [mval, wrap32, fdiv32]; omega
  rw [law_cut_take _ hw (by simp; omega) (by simp), hv]
/-- the sign that is kept -/
def sg (neg : Bool) (n : Nat) : Bool := neg && decide (n ≠ 0)
theorem digs_len_pos (n : Nat) : decide (((digs n).length : Int) > 0) = decide (n ≠ 0) := by
  by_cases h : n = 0
  · subst h; rw [digs_zero]; simp
  · obtain ⟨-, h2⟩ := digs_length_bl n h
    rw [decide_eq_true (by omega), decide_eq_true h]
theorem put_k (neg : Bool) (n : Nat) (k : Bool → List Int → Bool) : cond (neg == true) (k (decide (((digs n).length : Int) > 0)) (digs n)) (k false (digs n)) = k (sg neg n) (digs n) := by
  rw [digs_len_pos]
  cases neg <;> rfl
theorem law_put_n {N : Nat} (neg : Bool) (m : List Int) (b : Bool) (hm : InW m) (hN : Short N m) (k : Bool → List Int → Bool) : s_q13 N neg m b k = k (sg neg (mval m)) (digs (mval m)) := by
  unfold s_q13 G_q13
  rw [law_cut m hm (by have := hN.1; omega) (by have := hN.2; omega)]
  exact put_k neg _ k
theorem law_put_r {N : Nat} (neg : Bool) (m : List Int) (b : Bool) (l : List Int) (hm : InW m) (hN : Short N m) (k : Bool → List Int → Bool) : s_q19 N neg m b l k = k (sg neg (mval m)) (digs (mval m)) := by
  unfold s_q19 G_q19
  rw [law_cut m hm (by have := hN.1; omega) (by have := hN.2; omega)]
  exact put_k neg _ k
theorem law_SetUint64 {N : Nat} (n : Nat) (hn : n < 18446744073709551616) (b : Bool) (hN : Short N (digs n)) (h4 : 4 < N) (k : Bool → List Int → Bool) : s_q25 N n b k = k false (digs n) := by
  unfold s_q25 G_q25
  rw [law_words n hn h4, law_put_n false _ b (digs_inW n) hN, mval_digs]
  rfl
theorem law_Set {N : Nat} (b neg : Bool) (n : Nat) (hN : Short N (digs n)) (k : Bool → List Int → Bool) : s_q3 N b neg (digs n) k = k (sg neg n) (digs n) := by
  unfold s_q3 G_q3 s_q68 G_q68
  obtain ⟨h1, h2⟩ := hN
  rw [List.nil_append, decide_eq_true (by omega), Bool.true_and, law_cut_w _ (by omega) (by omega)]
  have hc := cutLen_le (digs n) (digs n).length
  have ht : (digs n).take (cutLen (digs n) (digs n).length) = digs n := by rw [take_cutLen (digs_inW n), mval_digs]
  have hlen : cutLen (digs n) (digs n).length = (digs n).length := by
    have := congrArg List.length ht
    rw [List.length_take] at this; omega
  rw [hlen]
  simp only [List.drop_zero, List.take_length]
  rw [decide_eq_true (by omega : 0 + (digs n).length ≤ (digs n).length), Bool.true_and, digs_len_pos]
  cases neg <;> rfl

end Go.Proofs.YtldpkhfffeddiaaGreat
end
section
namespace Go.Proofs.YtldpkhfffeddiaaGreat
open Go Go.Mach

/-- what a sign and a magnitude are worth -/
def ival (g : Bool) (n : Nat) : Int := if g = true then -(n : Int) else n
/-- a number handed on -/
def intK (z : Int) (k : Bool → List Int → Bool) : Bool := k (decide (z < 0)) (digs z.natAbs)
theorem put_val (g : Bool) (n : Nat) (k : Bool → List Int → Bool) : k (sg g n) (digs n) = intK (ival g n) k := by
  unfold intK ival sg
  cases g
  · simp only [Bool.false_eq_true, if_false, Bool.false_and, Int.natAbs_natCast]
    rw [decide_eq_false (by omega)]
  · simp only [if_true, Bool.true_and, Int.natAbs_neg, Int.natAbs_natCast]
    congr 1
    by_cases h : n = 0
    · subst h; rfl
    · rw [decide_eq_true h, decide_eq_true (by omega)]
theorem ival_nat (z : Int) : ival (decide (z < 0)) z.natAbs = z := by
  unfold ival
  by_cases h : z < 0
  · rw [decide_eq_true h]; simp; omega
  · rw [decide_eq_false h]; simp; omega
theorem cmpN_ge {x y : Nat} : decide (cmpN x y ≥ 0) = decide (y ≤ x) := by
  unfold cmpN
  split
  · rw [decide_eq_false (by omega), decide_eq_false (by omega)]
  · split
    · rw [decide_eq_true (by omega), decide_eq_true (by omega)]
    · rw [decide_eq_true (by omega), decide_eq_true (by omega)]
theorem sum_cases (g1 g2 turn : Bool) (n1 n2 : Nat) (k : Bool → List Int → Bool) :
    cond (g1 == (g2 != turn)) (k (sg (g2 != turn) (n1 + n2)) (digs (n1 + n2))) (cond (decide (cmpN n1 n2 ≥ 0)) (k (sg g1 (n1 - n2)) (digs (n1 - n2))) (k (sg (g2 != turn) (n2 - n1)) (digs (n2 - n1))))
      = intK (ival g1 n1 + (if turn = true then -(ival g2 n2) else ival g2 n2)) k := by
  rw [put_val _ _ k, put_val _ _ k, put_val _ _ k, cmpN_ge]
  have key : ∀ a b : Int, a = b → intK a k = intK b k := fun a b h => by rw [h]
  cases g1 <;> cases g2 <;> cases turn <;> simp only [ival] <;> by_cases h : n2 ≤ n1 <;> simp only [h, decide_true, decide_false, cond_true, cond_false, bne, beq_self_eq_true, Bool.not_true, Bool.not_false, Bool.false_eq_true, if_true, if_false, (by decide : (false == true) = false), (by decide : (true == false) = false)] <;> refine key _ _ ?_ <;> omega

theorem law_sum_r {N : Nat} (turn g1 : Bool) (n1 : Nat) (g2 : Bool) (n2 : Nat) (h1 : Short N (digs n1)) (h2 : Short N (digs n2)) (h3 : Short N (digs (n1 + n2))) (k : Bool → List Int → Bool) :
    s_q33 N turn g1 (digs n1) g2 (digs n2) k = intK (ival g1 n1 + (if turn = true then -(ival g2 n2) else ival g2 n2)) k := by
  unfold s_q33 G_q33
  have hs : ∀ m, m ≤ n1 + n2 → Short N (digs m) := fun m hm => by
    have := digs_length_le hm
    exact ⟨by have := h3.1; omega, by have := h3.2; omega⟩
  rw [law_plus _ _ (digs_inW _) (digs_inW _) h1 h2, law_compare _ _ h1 h2, mval_digs, mval_digs, law_put_r _ _ _ _ (digs_inW _) h3, mval_digs, ← sum_cases]
  congr 1
  by_cases h : n2 ≤ n1
  · rw [law_minus _ _ (digs_inW _) (digs_inW _) (by rw [mval_digs, mval_digs]; exact h) h1, mval_digs, mval_digs, law_put_r _ _ _ _ (digs_inW _) (hs _ (by omega)), mval_digs, cmpN_ge, decide_eq_true h]
    rfl
  · rw [law_minus _ _ (digs_inW n2) (digs_inW n1) (by rw [mval_digs, mval_digs]; omega) h2, mval_digs, mval_digs, law_put_r _ _ _ _ (digs_inW _) (hs _ (by omega)), mval_digs, cmpN_ge, decide_eq_false h]
    rfl
theorem law_sum_n {N : Nat} (turn b g1 : Bool) (n1 : Nat) (g2 : Bool) (n2 : Nat) (h1 : Short N (digs n1)) (h2 : Short N (digs n2)) (h3 : Short N (digs (n1 + n2))) (k : Bool → List Int → Bool) :
    s_q31 N turn b g1 (digs n1) g2 (digs n2) k = intK (ival g1 n1 + (if turn = true then -(ival g2 n2) else ival g2 n2)) k := by
  unfold s_q31 G_q31
  have hs : ∀ m, m ≤ n1 + n2 → Short N (digs m) := fun m hm => by
    have := digs_length_le hm
    exact ⟨by have := h3.1; omega, by have := h3.2; omega⟩
  rw [law_plus _ _ (digs_inW _) (digs_inW _) h1 h2, law_compare _ _ h1 h2, mval_digs, mval_digs, law_put_n _ _ _ (digs_inW _) h3, mval_digs, ← sum_cases]
  congr 1
  by_cases h : n2 ≤ n1
  · rw [law_minus _ _ (digs_inW _) (digs_inW _) (by rw [mval_digs, mval_digs]; exact h) h1, mval_digs, mval_digs, law_put_n _ _ _ (digs_inW _) (hs _ (by omega)), mval_digs, cmpN_ge, decide_eq_true h]
    rfl
  · rw [law_minus _ _ (digs_inW n2) (digs_inW n1) (by rw [mval_digs, mval_digs]; omega) h2, mval_digs, mval_digs, law_put_n _ _ _ (digs_inW _) (hs _ (by omega)), mval_digs, cmpN_ge, decide_eq_false h]
    rfl
theorem law_Add_r {N : Nat} (g1 : Bool) (n1 : Nat) (g2 : Bool) (n2 : Nat) (h1 : Short N (digs n1)) (h2 : Short N (digs n2)) (h3 : Short N (digs (n1 + n2))) (k : Bool → List Int → Bool) :
    s_q0 N g1 (digs n1) g2 (digs n2) k = intK (ival g1 n1 + ival g2 n2) k := by
  unfold s_q0 G_q0
  rw [law_sum_r false g1 n1 g2 n2 h1 h2 h3]; rfl
theorem law_Sub_n {N : Nat} (b g1 : Bool) (n1 : Nat) (g2 : Bool) (n2 : Nat) (h1 : Short N (digs n1)) (h2 : Short N (digs n2)) (h3 : Short N (digs (n1 + n2))) (k : Bool → List Int → Bool) :
    s_q30 N b g1 (digs n1) g2 (digs n2) k = intK (ival g1 n1 - ival g2 n2) k := by
  unfold s_q30 G_q30
  rw [law_sum_n true b g1 n1 g2 n2 h1 h2 h3]; rfl

/-! ### shifts -/
def shOk (N m s : Nat) : Prop := (digs m).length + s / 32 + 4 < N ∧ (digs m).length ≤ 1099511627776 ∧ s < 4294967296 ∧ Short N (digs (m * 2 ^ s))
theorem law_Lsh_r {N : Nat} (s : Nat) (g : Bool) (n : Nat) (h : shOk N n s) (k : Bool → List Int → Bool) : s_q5 N s g (digs n) k = intK (ival g (n * 2 ^ s)) k := by
  unfold s_q5 G_q5
  rw [law_left _ (digs_inW n) s h.2.2.1 h.1 h.2.1, mval_digs, law_put_r _ _ _ _ (digs_inW _) h.2.2.2, mval_digs, put_val _ _ k]
theorem law_Lsh_n {N : Nat} (s : Nat) (b g : Bool) (n : Nat) (h : shOk N n s) (k : Bool → List Int → Bool) : s_q54 N s b g (digs n) k = intK (ival g (n * 2 ^ s)) k := by
  unfold s_q54 G_q54
  rw [law_left _ (digs_inW n) s h.2.2.1 h.1 h.2.1, mval_digs, law_put_n _ _ _ (digs_inW _) h.2.2.2, mval_digs, put_val _ _ k]
theorem short_div {N n s : Nat} (h : Short N (digs n)) : Short N (digs (n / 2 ^ s)) := by
  have := digs_length_le (Nat.div_le_self n (2 ^ s))
  exact ⟨by have := h.1; omega, by have := h.2; omega⟩
theorem law_Rsh_r {N : Nat} (s : Nat) (n : Nat) (hs : s < 4294967296) (h : Short N (digs n)) (k : Bool → List Int → Bool) : s_q4 N s false (digs n) k = k false (digs (n / 2 ^ s)) := by
  unfold s_q4 G_q4
  simp only [Bool.not_false, cond_true]
  rw [law_right _ (digs_inW n) s hs h, mval_digs, law_put_r _ _ _ _ (digs_inW _) (short_div h), mval_digs]
  rfl
theorem law_Rsh_n {N : Nat} (s : Nat) (b : Bool) (n : Nat) (hs : s < 4294967296) (h : Short N (digs n)) (k : Bool → List Int → Bool) : s_q56 N s b false (digs n) k = k false (digs (n / 2 ^ s)) := by
  unfold s_q56 G_q56
  simp only [Bool.not_false, cond_true]
  rw [law_right _ (digs_inW n) s hs h, mval_digs, law_put_n _ _ _ (digs_inW _) (short_div h), mval_digs]
  rfl

/-! ### small things -/
theorem digs_nil {n : Nat} : (((digs n).length : Int) == 0) = decide (n = 0) := by
  by_cases h : n = 0
  · subst h; rw [digs_zero]; rfl
  · obtain ⟨-, h2⟩ := digs_length_bl n h
    rw [decide_eq_false h]; simp; intro h'; rw [h'] at h2; simp at h2
theorem law_Sign_r (N : Nat) (g : Bool) (n : Nat) (k : Int → Bool) : s_q44 N g (digs n) k = k (if n = 0 then 0 else if g = true then -1 else 1) := by
  unfold s_q44 G_q44
  rw [digs_nil]
  by_cases h : n = 0
  · rw [decide_eq_true h, if_pos h]; rfl
  · rw [decide_eq_false h, if_neg h]; cases g <;> rfl
theorem law_Cmp_r {N : Nat} (x y : Nat) (hx : Short N (digs x)) (hy : Short N (digs y)) (k : Int → Bool) : s_q55 N false (digs x) false (digs y) k = k (cmpN x y) := by
  unfold s_q55 G_q55
  rw [law_compare x y hx hy]; rfl
theorem law_NewInt {N : Nat} (n : Nat) (hn : n < 9223372036854775808) (hs : Short N (digs n)) (h4 : 4 < N) (k : Bool → List Int → Bool) : s_q6 N n k = k false (digs n) := by
  unfold s_q6 G_q6 s_q34 G_q34
  have e : IntKind.wrap .u64 (n : Int) = n := by rw [wrap64]; omega
  rw [decide_eq_false (by omega : ¬ (n : Int) < 0), cond_false, e, law_words n (by omega) h4, law_put_n _ _ _ (digs_inW _) hs, mval_digs]
  rfl
theorem digs_one : digs 1 = [1] := by rw [digs_pos (by decide), digs_zero]; rfl
theorem law_Uint64 (N : Nat) (g : Bool) (n : Nat) (hn : n < 18446744073709551616) (k : Int → Bool) : s_q2 N g (digs n) k = k n := by
  unfold s_q2 G_q2
  by_cases h : n = 0
  · subst h; rw [digs_zero]; rfl
  · rw [digs_pos h]
    by_cases h1 : n / 4294967296 = 0
    · rw [h1, digs_zero]
      have : n % 4294967296 = n := Nat.mod_eq_of_lt (by omega)
      rw [this]
      show k (IntKind.wrap .u64 (n : Int)) = k n
      rw [wrap64]; congr 1; omega
    · rw [digs_pos h1]
      have h2 : n / 4294967296 / 4294967296 = 0 := by omega
      rw [h2, digs_zero]
      have p32 : (2 : Nat) ^ 32 = 4294967296 := by decide
      have e1 : IntKind.wrap .u64 ((n % 4294967296 : Nat) : Int) = ((n % 4294967296 : Nat) : Int) := by rw [wrap64]; omega
      have e2 : IntKind.wrap .u64 (IntKind.wrap .u64 ((n / 4294967296 % 4294967296 : Nat) : Int) * 2 ^ 32) = ((2 ^ 32 * (n / 4294967296) : Nat) : Int) := by
        have : (2 : Int) ^ 32 = 4294967296 := by decide
        rw [wrap64, wrap64]; omega
      show k (bitsN .or .u64 (IntKind.wrap .u64 ((n % 4294967296 : Nat) : Int)) (IntKind.wrap .u64 (IntKind.wrap .u64 ((n / 4294967296 % 4294967296 : Nat) : Int) * 2 ^ 32))) = k n
      rw [e1, e2, bitsN_or_disj64 _ _ 32 (by omega) (by omega)]
      congr 1; omega

end Go.Proofs.YtldpkhfffeddiaaGreat
end
section
namespace Go.Proofs.YtldpkhfffeddiaaGreat
open Go Go.Mach

theorem nat_fdiv (a b : Nat) : Int.fdiv (a : Int) (b : Int) = ((a / b : Nat) : Int) := by
  rw [Int.fdiv_eq_ediv_of_nonneg _ (by omega)]; rfl
theorem law_format_sign (N : Nat) (k : Int → Bool) : s_q103 N 52 2047 1075 k = k 9223372036854775808 := by rfl
theorem law_format_infinite (N : Nat) (k : Int → Bool) : s_q46 N 52 2047 1075 k = k 9218868437227405312 := by rfl
theorem law_format_hidden (N : Nat) (k : Int → Bool) : s_q71 N 52 2047 1075 k = k 4503599627370496 := by rfl
theorem law_format_none (N : Nat) (k : Int → Bool) : s_q114 N 52 2047 1075 k = k 9221120237041090561 := by
  unfold s_q114 G_q114
  simp only [law_format_infinite, law_format_hidden]
  exact congrArg k (by decide)
theorem law_nan (N : Nat) (b : Nat) (k : Bool → Bool) : s_q42 N b 52 2047 1075 k = k (isNaN b) := by
  unfold s_q42 G_q42
  simp only [law_format_sign, law_format_infinite, bitsN_andNot_top]
  congr 1
  rw [Bool.eq_iff_iff, decide_eq_true_iff, isNaN_iff]
  omega
def cnb (b : Nat) : Nat := if isNaN b then 9221120237041090561 else b
theorem law_canon (N : Nat) (b : Nat) (k : Int → Bool) : s_q12 N b 52 2047 1075 k = k (cnb b) := by
  unfold s_q12 G_q12
  simp only [law_nan, law_format_none, cnb]
  cases isNaN b <;> rfl
theorem law_split (N : Nat) (b : Nat) (k : Bool → Int → Int → Bool) : s_q28 N b 52 2047 1075 k = k (bitsN .and .u64 (cnb b) 9223372036854775808 != 0) ((cnb b / 4503599627370496 % 2048 : Nat) : Int) ((cnb b % 4503599627370496 : Nat) : Int) := by
  unfold s_q28 G_q28
  simp only [law_canon, law_format_sign, law_format_hidden]
  have e1 : (2 : Int) ^ (min (Int.toNat 52) 64) = ((4503599627370496 : Nat) : Int) := by decide
  have e2 : IntKind.wrap .u64 2047 = ((2 ^ 11 - 1 : Nat) : Int) := by decide
  have e3 : IntKind.wrap .u64 (4503599627370496 - 1) = ((2 ^ 52 - 1 : Nat) : Int) := by decide
  have e4 : decide ((0 : Int) ≤ 52) = true := by decide
  rw [e1, nat_fdiv, e2, e3, bitsN_and_mask _ _ (by decide), bitsN_and_mask _ _ (by decide), e4, fits_ok (by omega) (by omega)]
  rfl
theorem cls_cnb (b : Nat) : cls b = if (cnb b / 4503599627370496 % 2048) = 2047 then (if cnb b % 4503599627370496 = 0 then 2 else 1) else if cnb b / 4503599627370496 % 2048 = 0 then (if cnb b % 4503599627370496 = 0 then 3 else 4) else 5 := by
  unfold cls cnb
  by_cases h : isNaN b = true
  · rw [if_pos h, if_pos h]; decide
  · rw [if_neg h, if_neg h]
    have hn : ¬ (9218868437227405312 < b % 9223372036854775808) := fun q => h ((isNaN_iff b).2 q)
    by_cases h1 : b / 4503599627370496 % 2048 = 2047
    · rw [if_pos h1, if_pos h1, if_pos (by omega)]
    · rw [if_neg h1, if_neg h1]
theorem law_class (N : Nat) (b : Nat) (k : Int → Bool) : s_q27 N b 52 2047 1075 k = k (cls b) := by
  unfold s_q27 G_q27
  simp only [law_split, cls_cnb b]
  generalize cnb b / 4503599627370496 % 2048 = e
  generalize cnb b % 4503599627370496 = f
  have d1 : ((e : Int) == 2047) = decide (e = 2047) := by rw [Bool.eq_iff_iff, beq_iff_eq, decide_eq_true_iff]; omega
  have d2 : ((e : Int) == 0) = decide (e = 0) := by rw [Bool.eq_iff_iff, beq_iff_eq, decide_eq_true_iff]; omega
  have d3 : ((f : Int) == 0) = decide (f = 0) := by rw [Bool.eq_iff_iff, beq_iff_eq, decide_eq_true_iff]; omega
  simp only [bne, d1, d2, d3]
  by_cases h1 : e = 2047 <;> by_cases h2 : e = 0 <;> by_cases h3 : f = 0 <;> simp [h1, h2, h3]
theorem law_Class (N : Nat) (b : Nat) (k : Int → Bool) : s_q106 N b k = k (cls b) := by
  unfold s_q106 G_q106
  simp only [s_q78, s_an_of, G_an_of, law_class]
theorem cnb_cn (a b : Nat) (_ha : a < 18446744073709551616 ∨ True) : decide ((cnb a : Int) = cnb b) = decide (cn (some a) = cn (some b)) := by
  have hq : isNaN 9221120237041090561 = true := by decide
  rw [Bool.eq_iff_iff, decide_eq_true_iff, decide_eq_true_iff]
  have cf : ∀ c, cn (some c) = if isNaN c = true then none else some c := fun _ => rfl
  rw [cf, cf]
  unfold cnb
  by_cases h1 : isNaN a = true <;> by_cases h2 : isNaN b = true
  · simp [h1, h2]
  · rw [if_pos h1, if_neg h2, if_pos h1, if_neg h2]
    refine ⟨fun h => ?_, fun h => by cases h⟩
    have : b = 9221120237041090561 := by omega
    rw [this] at h2; exact absurd hq h2
  · rw [if_neg h1, if_pos h2, if_neg h1, if_pos h2]
    refine ⟨fun h => ?_, fun h => by cases h⟩
    have : a = 9221120237041090561 := by omega
    rw [this] at h1; exact absurd hq h1
  · simp only [h1, h2, if_false, Option.some.injEq, Bool.false_eq_true]; omega
theorem law_Same (N : Nat) (a b : Nat) (k : Bool → Bool) : s_q113 N a b k = k (decide (cn (some a) = cn (some b))) := by
  unfold s_q113 G_q113
  simp only [s_q78, s_an_of, G_an_of, law_canon]
  rw [← cnb_cn a b (.inr trivial)]
  rfl
theorem law_Abs (N : Nat) (b : Nat) (k : Fl → Bool) : s_q120 N b k = k (absF (some b)) := by
  unfold s_q120 G_q120
  simp only [s_q78, s_q39, bitsN_andNot_top]
  rfl

end Go.Proofs.YtldpkhfffeddiaaGreat
end
section
namespace Go.Proofs.YtldpkhfffeddiaaGreat
open Go Go.Mach
set_option linter.unusedVariables false

theorem cond_k (b : Bool) (k : Bool → Bool) : cond b (k true) (k false) = k b := by cases b <;> rfl
theorem and_true_of {a c : Bool} (h : a = true) : (a && c) = c := by rw [h]; rfl
def Small (N n : Nat) : Prop := n < N ∧ n ≤ 17592186044416
theorem toNat_idx (i n j : Nat) : Int.toNat ((i : Int) * (n : Int) + (j : Int)) = i * n + j := by
  rw [← Int.natCast_mul, ← Int.natCast_add, Int.toNat_natCast]

def of64 (l : List Int) : List Fl := l.map fun n => canon n.toNat
theorem of64_length (l : List Int) : (of64 l).length = l.length := by simp [of64]
def allFin (xs : List Fl) : Bool := allN (fun i => finF (xs.getD i none)) xs.length
theorem law_Finite {N : Nat} (xs : List Fl) (hl : Small N xs.length) (k : Bool → Bool) : s_q14 N xs k = k (allFin xs) := by
  unfold s_q14 G_q14 s_q88
  rw [← cond_k (allFin xs) k]
  refine (iterG_all (fun i => (i : Int)) (fun i => finF (xs.getD i none)) xs.length hl.1 (fun i hi K => ?_) (fun K => ?_) : _)
  · have h2 := hl.2
    simp only [st_an_Finite_0, Int.toNat_natCast]
    rw [dec_true (by omega), cond_true, and_true_of (inR_of (by omega) (by omega)), and_true_of (fits_ok (by omega) (by omega))]
    have hc := clsF_fin (xs.getD i none)
    generalize clsF (xs.getD i none) = c at hc ⊢
    generalize finF (xs.getD i none) = f at hc ⊢
    have d1 : (c == 1) = decide (c = 1) := rfl
    have d2 : (c == 2) = decide (c = 2) := rfl
    rw [d1, d2]
    generalize decide (c = 1) = u at *
    generalize decide (c = 2) = v at *
    cases u <;> cases v <;> cases f <;> first | rfl | cases hc
  · simp only [st_an_Finite_0]
    rw [dec_false (by omega), cond_false]
def bitsF : Fl → Nat
  | none => 9221120237041090561
  | some b => cnb b
theorem order_self (d : Ieee.Datum) (h : d.isNaN = false) : d.order d = some .eq := by
  cases d with
  | nan s t => cases h
  | infinity s => simp [Ieee.Datum.order, compare, compareOfLessAndEq]
  | number s m i => simp [Ieee.Datum.order, compare, compareOfLessAndEq]
theorem feq_self' (b : Nat) (h : isNaN b = false) : (Ieee.double.order b b == some .eq) = true := by
  unfold Ieee.Format.order
  rw [order_self _ h]; rfl
theorem feq_self (b : Nat) : feq (some b) (some b) = !isNaN b := by
  cases h : isNaN b with
  | true => simp [feq, ford, order_nan_left b h]
  | false => simp only [feq, ford, Bool.not_false]; exact feq_self' b h
theorem law_Bits (N : Nat) (x : Fl) (k : Int → Bool) : s_q108 N x k = k (bitsF x) := by
  unfold s_q108 G_q108 s_q48
  cases x with
  | none => rfl
  | some b =>
    rw [feq_self]
    simp only [bitsF, cnb]
    cases isNaN b <;> rfl
theorem nat_tmod (a b : Nat) : Int.tmod (a : Int) (b : Int) = ((a % b : Nat) : Int) := by
  rw [Int.tmod_eq_emod_of_nonneg (by omega)]; rfl
theorem law_Split (N : Nat) (x : Fl) (k : Bool → Int → Int → Bool) : s_q93 N x k = k (Int.fdiv (bitsF x : Int) (2 ^ 63) == 1) ((bitsF x / 4503599627370496 % 2048 : Nat) : Int) ((bitsF x % 4503599627370496 : Nat) : Int) := by
  unfold s_q93 G_q93
  simp only [law_Bits]
  have e1 : (2 : Int) ^ 52 = ((4503599627370496 : Nat) : Int) := by decide
  have e2 : (2048 : Int) = ((2048 : Nat) : Int) := rfl
  have e3 : (4503599627370496 : Int) = ((4503599627370496 : Nat) : Int) := rfl
  rw [e1, e2, e3, nat_fdiv, nat_tmod, nat_tmod, fits_ok (by omega) (by omega)]
  rfl
theorem clsF_bits (x : Fl) : clsF x = if (bitsF x / 4503599627370496 % 2048) = 2047 then (if bitsF x % 4503599627370496 = 0 then 2 else 1) else if bitsF x / 4503599627370496 % 2048 = 0 then (if bitsF x % 4503599627370496 = 0 then 3 else 4) else 5 := by
  cases x with
  | none => decide
  | some b => exact cls_cnb b
theorem law_ref_Class (N : Nat) (x : Fl) (k : Int → Bool) : s_q92 N x k = k (clsF x) := by
  unfold s_q92 G_q92 s_q67 G_q67
  simp only [law_Split, clsF_bits x]
  generalize bitsF x / 4503599627370496 % 2048 = e
  generalize bitsF x % 4503599627370496 = f
  have d1 : ((e : Int) == 2047) = decide (e = 2047) := by rw [Bool.eq_iff_iff, beq_iff_eq, decide_eq_true_iff]; omega
  have d2 : ((e : Int) == 0) = decide (e = 0) := by rw [Bool.eq_iff_iff, beq_iff_eq, decide_eq_true_iff]; omega
  have d3 : ((f : Int) == 0) = decide (f = 0) := by rw [Bool.eq_iff_iff, beq_iff_eq, decide_eq_true_iff]; omega
  simp only [bne, d1, d2, d3]
  by_cases h1 : e = 2047 <;> by_cases h2 : e = 0 <;> by_cases h3 : f = 0 <;> simp [h1, h2, h3]
theorem law_ref_Finite (N : Nat) (x : Fl) (k : Bool → Bool) : s_q9 N x k = k (finF x) := by
  unfold s_q9 G_q9
  simp only [law_ref_Class]
  congr 1
  have h1 := clsF_fin x
  have h2 := clsF_lo x
  rw [Bool.eq_iff_iff, decide_eq_true_iff]
  cases hf : finF x with
  | true =>
    rw [hf] at h1
    simp only [Bool.not_true, Bool.or_eq_false_iff, decide_eq_false_iff_not] at h1
    exact ⟨fun _ => rfl, fun _ => by omega⟩
  | false =>
    rw [hf] at h1
    simp only [Bool.not_false, Bool.or_eq_true, decide_eq_true_eq] at h1
    exact ⟨fun _ => by omega, fun h => by cases h⟩
theorem law_AllFinite {N : Nat} (xs : List Fl) (hl : Small N xs.length) (k : Bool → Bool) : s_q11 N xs k = k (allFin xs) := by
  unfold s_q11 G_q11
  rw [← cond_k (allFin xs) k]
  refine (iterG_all (fun i => (i : Int)) (fun i => finF (xs.getD i none)) xs.length hl.1 (fun i hi K => ?_) (fun K => ?_) : _)
  · have h2 := hl.2
    simp only [st_q145, Int.toNat_natCast, law_ref_Finite]
    rw [dec_true (by omega), cond_true, and_true_of (inR_of (by omega) (by omega)), and_true_of (fits_ok (by omega) (by omega))]
    cases finF (xs.getD i none) <;> rfl
  · simp only [st_q145]
    rw [dec_false (by omega), cond_false]
theorem law_S (N : Nat) (x : Fl) (o : Bool) (k : Bool → Bool) : s_q51 N x o k = k (o || !finF x) := by
  unfold s_q51 G_q51
  simp only [law_ref_Finite]
  cases o <;> rfl
theorem bitsF_cn (x y : Fl) : ((bitsF x : Int) == bitsF y) = decide (cn x = cn y) := by
  have hq : cn (some 9221120237041090561) = none := by decide
  have hb : cnb 9221120237041090561 = 9221120237041090561 := by decide
  have key : ∀ x, ∃ a, bitsF x = cnb a ∧ cn x = cn (some a) := by
    intro x
    cases x with
    | none => exact ⟨9221120237041090561, hb.symm, hq.symm⟩
    | some b => exact ⟨b, rfl, rfl⟩
  obtain ⟨a, e1, e2⟩ := key x
  obtain ⟨b, e3, e4⟩ := key y
  rw [e1, e2, e3, e4, ← cnb_cn a b (.inr trivial)]
  rfl
theorem iterG_eq0 {σ : Type} {step : σ → (σ → Bool) → Bool} {s : σ} (C : Nat → σ) (n : Nat) {N : Nat} (h0 : s = C 0) (hn : n < N) {out : Bool} (hs : ∀ i, i < n → ∀ K : σ → Bool, step (C i) K = K (C (i + 1))) (hx : ∀ K, step (C n) K = out) : iterG N step s = out := by
  subst h0; exact iterG_eq C n hn hs hx
theorem iterG_all0 {σ : Type} {step : σ → (σ → Bool) → Bool} {s : σ} (C : Nat → σ) (p : Nat → Bool) (n : Nat) {N : Nat} (h0 : s = C 0) (hn : n < N) {ex out : Bool}
    (hs : ∀ i, i < n → ∀ K : σ → Bool, step (C i) K = cond (p i) (K (C (i + 1))) ex) (hx : ∀ K, step (C n) K = out) : iterG N step s = cond (allN p n) out ex := by
  subst h0; exact iterG_all C p n hn hs hx
theorem idx_lt {n i j : Nat} (hi : i < n) (hj : j < n) : i * n + j < n * n := by
  have : (i + 1) * n ≤ n * n := Nat.mul_le_mul_right n hi
  rw [Nat.add_mul] at this; omega
theorem nn_le {n : Nat} (h : n ≤ 12) : n * n ≤ 144 := Nat.mul_le_mul h h
theorem in_le {n i : Nat} (h : n ≤ 12) (hi : i < n) : i * n ≤ 144 := Nat.mul_le_mul (by omega : i ≤ 12) h
theorem ne_dec (a b : Int) : (a != b) = !decide (a = b) := rfl

theorem law_size (N : Nat) (n : Int) (k : Bool → Bool) : s_matrix_size N n k = k (decide (0 ≤ n ∧ n ≤ 12)) := by
  unfold s_matrix_size G_matrix_size
  by_cases h1 : 0 ≤ n
  · rw [dec_true (p := n ≥ 0) h1]; simp [h1]
  · rw [dec_false (p := n ≥ 0) h1]; simp [h1]

def chk (r c : Int) (xs : List Fl) : Int := if (0 ≤ r ∧ r ≤ 12) ∧ (0 ≤ c ∧ c ≤ 12) then (if (xs.length : Int) = r * c then (if allFin xs = true then 0 else 4) else 3) else 1
theorem rc_fits {r c : Int} (hr : 0 ≤ r ∧ r ≤ 12) (hc : 0 ≤ c ∧ c ≤ 12) : fits .i64 (r * c) = true := by
  have h1 : 0 ≤ r * c := Int.mul_nonneg hr.1 hc.1
  have h2 : r * c ≤ 12 * 12 := Int.mul_le_mul hr.2 hc.2 hc.1 (by decide)
  exact fits_ok (by omega) (by omega)
theorem law_Check {N : Nat} (r c : Int) (xs : List Fl) (hl : Small N xs.length) (k : Int → Bool) : s_matrix_Check N r c xs k = k (chk r c xs) := by
  unfold s_matrix_Check G_matrix_Check chk
  simp only [law_size, law_Finite xs hl]
  by_cases hr : 0 ≤ r ∧ r ≤ 12
  · by_cases hc : 0 ≤ c ∧ c ≤ 12
    · rw [dec_true hr, dec_true hc, if_pos ⟨hr, hc⟩, ne_dec, rc_fits hr hc]
      by_cases hx : (xs.length : Int) = r * c
      · rw [dec_true hx, if_pos hx]; cases allFin xs <;> rfl
      · rw [dec_false hx, if_neg hx]; rfl
    · rw [dec_true hr, dec_false hc, if_neg (fun h => hc h.2)]; rfl
  · rw [dec_false hr, if_neg (fun h => hr h.1)]; rfl
theorem law_ref_Check {N : Nat} (r c : Int) (xs : List Fl) (hl : Small N xs.length) (k : Int → Bool) : s_q37 N r c xs k = k (chk r c xs) := by
  unfold s_q37 G_q37 chk
  simp only [law_AllFinite xs hl]
  by_cases hr : 0 ≤ r ∧ r ≤ 12
  · by_cases hc : 0 ≤ c ∧ c ≤ 12
    · rw [if_pos ⟨hr, hc⟩, ne_dec, rc_fits hr hc, dec_false (p := r < 0) (by omega), dec_false (p := r > 12) (by omega), dec_false (p := c < 0) (by omega), dec_false (p := c > 12) (by omega)]
      by_cases hx : (xs.length : Int) = r * c
      · rw [dec_true hx, if_pos hx]; cases allFin xs <;> rfl
      · rw [dec_false hx, if_neg hx]; rfl
    · rw [if_neg (fun h => hc h.2), dec_false (p := r < 0) (by omega), dec_false (p := r > 12) (by omega)]
      by_cases h : c < 0
      · rw [dec_true h]; rfl
      · rw [dec_false h, dec_true (p := c > 12) (by omega)]; rfl
  · rw [if_neg (fun h => hr h.1)]
    by_cases h : r < 0
    · rw [dec_true h]; rfl
    · rw [dec_false h, dec_true (p := r > 12) (by omega)]; rfl
theorem chk_zero {r c : Int} {xs : List Fl} : chk r c xs = 0 ↔ ((0 ≤ r ∧ r ≤ 12) ∧ (0 ≤ c ∧ c ≤ 12)) ∧ (xs.length : Int) = r * c ∧ allFin xs = true := by
  unfold chk
  split
  · split
    · split
      · simp [*]
      · simp [*]
    · simp [*]
  · simp [*]

def elt (xs : List Fl) (n i j : Nat) : Fl := xs.getD (i * n + j) none
def upP (xs : List Fl) (n i j : Nat) : Bool := decide (cn (elt xs n i j) = cn (some 0))
def lowRow (xs : List Fl) (n i : Nat) : Bool := allN (fun d => upP xs n i (i + 1 + d)) (n - (i + 1))
def lowP (xs : List Fl) (n : Nat) : Bool := allN (lowRow xs n) n
def diaP (xs : List Fl) (n i : Nat) : Bool := fgt (elt xs n i i) (some 0)
def abvP (xs : List Fl) (n : Nat) : Bool := allN (diaP xs n) n
def rchk (x : List Fl) (r c : Int) (xs : List Fl) : Int :=
  if chk r c xs ≠ 0 then chk r c xs else if r = c ∧ (x.length : Int) = r then (if allFin x = true then (if lowP xs x.length = true ∧ abvP xs x.length = true then 0 else 93) else 4) else 3
def wchk (n : Int) (h : List Fl) (r : Fl) : Int := if (h.length : Int) = n then (if allFin h = true ∧ finF r = true then (if fgt r (some 0) = true then 0 else 152) else 4) else 3
theorem rchk_zero {x : List Fl} {r c : Int} {xs : List Fl} (h : rchk x r c xs = 0) : ∃ n : Nat, x.length = n ∧ r = n ∧ c = n ∧ n ≤ 12 ∧ xs.length = n * n ∧ allFin x = true ∧ allFin xs = true ∧ lowP xs n = true ∧ abvP xs n = true := by
  unfold rchk at h
  split at h
  · exact absurd h (by assumption)
  · rename_i h0
    have h0 : chk r c xs = 0 := by simpa using h0
    split at h
    · rename_i h1
      obtain ⟨rfl, h1⟩ := h1
      subst h1
      have q := chk_zero.1 h0
      split at h
      · split at h
        · rename_i h2 h3
          exact ⟨_, rfl, rfl, rfl, by omega, by exact_mod_cast q.2.1, h2, q.2.2, h3.1, h3.2⟩
        · cases h
      · cases h
    · cases h


theorem toNat_succ (j : Nat) : Int.toNat ((j : Int) + 1) = j + 1 := by omega
def dotV (xs ys : List Fl) : Nat → Fl
  | 0 => some 0
  | i + 1 => fadd (dotV xs ys i) (fmul (xs.getD i none) (ys.getD i none))
def dotO (xs ys : List Fl) : Nat → Bool
  | 0 => false
  | i + 1 => (dotO xs ys i || !finF (fmul (xs.getD i none) (ys.getD i none))) || !finF (dotV xs ys (i + 1))
def colL (xs : List Fl) (n j : Nat) : Nat → List Fl
  | 0 => []
  | i + 1 => colL xs n j i ++ [elt xs n i j]
theorem colL_length (xs : List Fl) (n j : Nat) : ∀ i, (colL xs n j i).length = i
  | 0 => rfl
  | i + 1 => by simp [colL, colL_length xs n j i]
def vL (xs h : List Fl) (n : Nat) : Nat → List Fl
  | 0 => List.replicate n (some 0)
  | j + 1 => (vL xs h n j).set j (dotV (colL xs n j n) h n)
def vO (xs h : List Fl) (n : Nat) : Nat → Bool
  | 0 => false
  | j + 1 => vO xs h n j || dotO (colL xs n j n) h n
theorem vL_length (xs h : List Fl) (n : Nat) : ∀ j, (vL xs h n j).length = n
  | 0 => by simp [vL]
  | j + 1 => by simp [vL, vL_length xs h n j]
def aStep (v a : List Fl) (j : Nat) : Fl := fadd (a.getD (j + 1) none) (fmul (v.getD j none) (v.getD j none))
def aL (v : List Fl) (r : Fl) (n : Nat) : Nat → List Fl
  | 0 => (List.replicate (n + 1) (some 0)).set n r
  | i + 1 => (aL v r n i).set (n - 1 - i) (aStep v (aL v r n i) (n - 1 - i))
def aO (v : List Fl) (r : Fl) (n : Nat) : Nat → Bool
  | 0 => false
  | i + 1 => (aO v r n i || !finF (fmul (v.getD (n - 1 - i) none) (v.getD (n - 1 - i) none))) || !finF (aStep v (aL v r n i) (n - 1 - i))
theorem aL_length (v : List Fl) (r : Fl) (n : Nat) : ∀ i, (aL v r n i).length = n + 1
  | 0 => by simp [aL]
  | i + 1 => by simp [aL, aL_length v r n i]

def fO (x xs h : List Fl) (r : Fl) (n : Nat) : Bool := (vO xs h n n || dotO h x n) || aO (vL xs h n n) r n n
def fA (xs h : List Fl) (r : Fl) (n : Nat) : List Fl := aL (vL xs h n n) r n n
def foreK (x : List Fl) (r c : Int) (xs h : List Fl) (rr : Fl) (k : Fl → Fl → Int → Bool) : Bool :=
  if rchk x r c xs ≠ 0 then k (some 0) (some 0) (rchk x r c xs) else if wchk x.length h rr ≠ 0 then k (some 0) (some 0) (wchk x.length h rr)
  else cond (fO x xs h rr x.length) (k (some 0) (some 0) 5) (k (dotV h x x.length) ((fA xs h rr x.length).getD 0 none) 0)
theorem wchk_len {n : Nat} {h : List Fl} {r : Fl} (hw : wchk n h r = 0) : h.length = n := by
  unfold wchk at hw
  split at hw
  · omega
  · cases hw
theorem law_First2 {N : Nat} (a b : Int) (hN : 14 < N) (k : Int → Bool) : s_q32 N [a, b] k = k (if a ≠ 0 then a else b) := by
  obtain ⟨M, rfl⟩ : ∃ M, N = M + 10 := ⟨N - 10, by omega⟩
  have : s_q32 (M + 10) [a, b] k = cond (a != 0) (k a) (cond (b != 0) (k b) (k 0)) := by kernel_rfl
  rw [this, ne_dec, ne_dec]
  by_cases h1 : a = 0 <;> by_cases h2 : b = 0 <;> simp [h1, h2]
theorem law_First3 {N : Nat} (a b c : Int) (hN : 14 < N) (k : Int → Bool) : s_q32 N [a, b, c] k = k (if a ≠ 0 then a else if b ≠ 0 then b else c) := by
  obtain ⟨M, rfl⟩ : ∃ M, N = M + 10 := ⟨N - 10, by omega⟩
  have : s_q32 (M + 10) [a, b, c] k = cond (a != 0) (k a) (cond (b != 0) (k b) (cond (c != 0) (k c) (k 0))) := by kernel_rfl
  rw [this, ne_dec, ne_dec, ne_dec]
  by_cases h1 : a = 0 <;> by_cases h2 : b = 0 <;> by_cases h3 : c = 0 <;> simp [h1, h2, h3]

end Go.Proofs.YtldpkhfffeddiaaGreat
end
section
namespace Go.Proofs.YtldpkhfffeddiaaGreat
open Go Go.Mach Ieee
set_option linter.unusedVariables false

theorem digs_len_le : ∀ (j n : Nat), n < 4294967296 ^ j → (digs n).length ≤ j
  | 0, n, h => by
    have : n = 0 := by simp at h; exact h
    subst this; rw [digs_zero]; exact Nat.le_refl _
  | j + 1, n, h => by
    by_cases h0 : n = 0
    · subst h0; rw [digs_zero]; simp
    · rw [digs_pos h0, List.length_cons]
      have : n / 4294967296 < 4294967296 ^ j := Nat.div_lt_of_lt_mul (by rw [Nat.pow_succ] at h; omega)
      have := digs_len_le j _ this
      omega
theorem short_pow {N n j : Nat} (hN : 1000 ≤ N) (hj : j ≤ 900) (h : n < 4294967296 ^ j) : Short N (digs n) := by
  have := digs_len_le j n h
  exact ⟨by omega, by omega⟩
theorem short_small {N n : Nat} (hN : 1000 ≤ N) (h : n < 18446744073709551616) : Short N (digs n) := short_pow (j := 2) hN (by decide) (by
  have : (4294967296 : Nat) ^ 2 = 18446744073709551616 := by decide
  omega)
theorem pow32 (j : Nat) : 4294967296 ^ j = 2 ^ (32 * j) := by rw [Nat.pow_mul]
theorem shOk_of {N n s : Nat} (hN : 1000 ≤ N) (h : n < 18446744073709551616) (hs : s ≤ 7000) : shOk N n s := by
  have h2 : (digs n).length ≤ 2 := digs_len_le 2 n (by
    have : (4294967296 : Nat) ^ 2 = 18446744073709551616 := by decide
    omega)
  refine ⟨by omega, by omega, by omega, short_pow (j := 221) hN (by decide) ?_⟩
  rw [pow32]
  have hE : 64 + s ≤ 32 * 221 := by omega
  generalize 32 * 221 = E at hE ⊢
  have h64 : n < 2 ^ 64 := by
    have : (2 : Nat) ^ 64 = 18446744073709551616 := by decide
    omega
  have h1 : n * 2 ^ s < 2 ^ 64 * 2 ^ s := Nat.mul_lt_mul_of_pos_right h64 (Nat.two_pow_pos s)
  rw [← Nat.pow_add] at h1
  exact Nat.lt_of_lt_of_le h1 (Nat.pow_le_pow_right (by decide) hE)
theorem intK_nat (n : Nat) (k : Bool → List Int → Bool) : intK (n : Int) k = k false (digs n) := by
  unfold intK
  rw [decide_eq_false (by omega), Int.natAbs_natCast]
theorem ival_false (n : Nat) : ival false n = n := rfl

/-! ### lengths -/
theorem bl_le53 {q : Nat} (h : q < 9007199254740992) : bl q ≤ 53 := by
  unfold bl; split
  · omega
  · rename_i h0
    have := (Nat.log2_lt h0).2 (show q < 2 ^ 53 by simpa using h)
    omega
theorem bl_lt53 {q : Nat} (h : bl q < 53) : q < 4503599627370496 := by
  unfold bl at h; split at h
  · omega
  · rename_i h0
    have := (Nat.log2_lt h0).1 (show q.log2 < 52 by omega)
    simpa using this
theorem bl_ge53 {q : Nat} (h : ¬ bl q < 53) : 4503599627370496 ≤ q := by
  rcases Nat.lt_or_ge q 4503599627370496 with h1 | h1
  · exfalso
    apply h
    unfold bl; split
    · omega
    · rename_i h0
      have := (Nat.log2_lt h0).2 (show q < 2 ^ 52 by simpa using h1)
      omega
  · exact h1
theorem bl_2p53 : bl 9007199254740992 = 54 := by decide
theorem bl_log {m : Nat} (h : m ≠ 0) : bl m = m.log2 + 1 := by unfold bl; rw [if_neg h]

/-! ### bits -/
theorem or0 (n : Nat) (h : n < 18446744073709551616) : bitsN .or .u64 0 (n : Int) = n := by
  have := bitsN_or_disj64 0 n 0 (by decide) (by omega)
  simpa using this
theorem orTop (n : Nat) (h : n < 9223372036854775808) : bitsN .or .u64 (n : Int) 9223372036854775808 = ((9223372036854775808 + n : Nat) : Int) := by
  have := bitsN_or_disj64 n 1 63 (by simpa using h) (by simp; omega)
  simpa using this
theorem or52 (f n : Nat) (hf : f < 2048) (h : n < 4503599627370496) : bitsN .or .u64 ((f * 4503599627370496 : Nat) : Int) (n : Int) = ((f * 4503599627370496 + n : Nat) : Int) := by
  have e : bitsN .or .u64 ((f * 4503599627370496 : Nat) : Int) (n : Int) = bitsN .or .u64 (n : Int) ((f * 4503599627370496 : Nat) : Int) := by
    unfold bitsN bitsI
    simp only [Option.getD_some]
    rw [show (BitVec.ofInt (IntKind.bits .u64) ((f * 4503599627370496 : Nat) : Int) ||| BitVec.ofInt (IntKind.bits .u64) (n : Int)) = (BitVec.ofInt (IntKind.bits .u64) (n : Int) ||| BitVec.ofInt (IntKind.bits .u64) ((f * 4503599627370496 : Nat) : Int)) from BitVec.or_comm _ _]
  rw [e]
  have := bitsN_or_disj64 n f 52 (by simpa using h) (by simp; omega)
  rw [show (2 : Nat) ^ 52 * f = f * 4503599627370496 by rw [Nat.mul_comm]] at this
  exact this
theorem and52 (n : Nat) : bitsN .and .u64 (n : Int) 4503599627370495 = ((n % 4503599627370496 : Nat) : Int) := by
  have := bitsN_and_mask n 52 (by decide)
  simpa using this
theorem and1_32 (a : Nat) : bitsN .and .u32 (a : Int) 1 = ((a % 2 : Nat) : Int) := by
  unfold bitsN bitsI
  simp only [Option.getD_some]
  have e : ((BitVec.ofInt (IntKind.bits .u32) (a : Int)) &&& (BitVec.ofInt (IntKind.bits .u32) (1 : Int))).toNat = a % 2 := by
    show ((BitVec.ofInt 32 (a : Int)) &&& (BitVec.ofInt 32 ((2 ^ 1 - 1 : Nat) : Int))).toNat = a % 2 ^ 1
    rw [BitVec.toNat_and, BitVec.ofInt_natCast, BitVec.ofInt_natCast, BitVec.toNat_ofNat, BitVec.toNat_ofNat, Nat.mod_eq_of_lt (a := 2 ^ 1 - 1) (by decide), Nat.and_two_pow_sub_one_eq_mod, Nat.mod_mod_of_dvd]
    exact Nat.pow_dvd_pow 2 (by decide)
  rw [e, wrap_u32]
  omega
theorem law_put {N : Nat} (neg : Bool) (f n : Nat) (hf : f < 2048) (h : n < 4503599627370496) (k : Int → Bool) : s_q20 N neg f n k = k ((Ieee.double.word neg (f * 4503599627370496 + n) : Nat) : Int) := by
  unfold s_q20 G_q20
  have e : IntKind.wrap .u64 (IntKind.wrap .u64 (f : Int) * 2 ^ 52) = ((f * 4503599627370496 : Nat) : Int) := by
    rw [wrap_u64 f (by omega), wrap64]
    have : (2 : Int) ^ 52 = 4503599627370496 := by decide
    rw [this]; omega
  rw [e, or52 _ _ hf h]
  cases neg
  · rfl
  · rw [cond_true, orTop _ (by omega)]; rfl

theorem law_put_0 {N : Nat} (neg : Bool) (n : Nat) (h : n < 4503599627370496) (k : Int → Bool) : s_q20 N neg 0 n k = k ((Ieee.double.word neg (0 + n) : Nat) : Int) := by
  have := law_put (N := N) neg 0 n (by decide) h k
  rw [Nat.zero_mul] at this
  exact this
theorem law_Nought {N : Nat} (neg : Bool) (k : Int → Bool) : s_q99 N neg k = k ((Ieee.double.word neg 0 : Nat) : Int) := by
  have := law_put (N := N) neg 0 0 (by decide) (by decide) k
  exact this
theorem law_Infinity {N : Nat} (neg : Bool) (k : Int → Bool) : s_q47 N neg k = k ((Ieee.double.word neg 9218868437227405312 : Nat) : Int) := by
  have := law_put (N := N) neg 2047 0 (by decide) (by decide) k
  exact this
theorem law_over {N : Nat} (neg : Bool) (k : Int → Bool) : s_q16 N neg k = k ((Ieee.double.word neg 9218868437227405312 : Nat) : Int) := law_Infinity (N := N) neg k
/-! ### cut off -/
theorem law_NewInt1 {N : Nat} (hN : 1000 ≤ N) (k : Bool → List Int → Bool) : s_q6 N 1 k = k false (digs 1) := law_NewInt (N := N) 1 (by decide) (short_small hN (by decide)) (by omega) k
theorem law_Rsh1 {N : Nat} (n : Nat) (k : Bool → List Int → Bool) (h : Short N (digs n)) : s_q4 N 1 false (digs n) k = k false (digs (n / 2)) := law_Rsh_r (N := N) 1 n (by decide) h k
theorem law_cut02 {N : Nat} (hN : 1000 ≤ N) (m d : Nat) (hm : m < 18446744073709551616) (h1 : 1 ≤ d) (hd : d ≤ 6900) (k : Int → Bool → List Int → Bool) :
    s_q17 N (d : Int) false (digs m) k = k (if m % 2 ^ d = 0 then -2 else cmpN (m % 2 ^ d) (2 ^ (d - 1))) false (digs (m / 2 ^ d)) := by
  unfold s_q17 G_q17
  have hmd : m / 2 ^ d * 2 ^ d ≤ m := Nat.div_mul_le_self _ _
  have hq : m / 2 ^ d ≤ m := Nat.div_le_self _ _
  have hr : m % 2 ^ d ≤ m := Nat.mod_le _ _
  have hme : m / 2 ^ d * 2 ^ d + m % 2 ^ d = m := by rw [Nat.mul_comm]; exact Nat.div_add_mod _ _
  rw [wrap_u64 d (by omega), law_Rsh_n d false m (by omega) (short_small hN hm), law_Lsh_n d false false _ (shOk_of hN (by omega) (by omega)), ival_false, intK_nat,
    law_Sub_n false false m false _ (short_small hN hm) (short_small hN (by omega)) (short_pow (j := 3) hN (by decide) (by
      have : (4294967296 : Nat) ^ 3 = 79228162514264337593543950336 := by decide
      omega)), ival_false, ival_false]
  have e : (m : Int) - ((m / 2 ^ d * 2 ^ d : Nat) : Int) = ((m % 2 ^ d : Nat) : Int) := by omega
  have e0 : ((d : Int) == 0) = false := by simp; omega
  rw [e, intK_nat, e0, cond_false, law_Sign_r]
  by_cases hz : m % 2 ^ d = 0
  · rw [if_pos hz, if_pos hz]; rfl
  · rw [if_neg hz, if_neg hz]
    simp only [Bool.false_eq_true, if_false]
    show s_q6 N 1 _ = _
    have e1 : IntKind.wrap .u64 ((d : Int) - 1) = ((d - 1 : Nat) : Int) := by rw [wrap64]; omega
    have hp1 := short_pow (N := N) (n := 2 ^ (d - 1)) (j := 220) hN (by decide) (by
      rw [pow32]
      have hE : d - 1 < 32 * 220 := by omega
      generalize 32 * 220 = E at hE ⊢
      exact Nat.pow_lt_pow_right (by decide) hE)
    rw [law_NewInt1 hN, and_tr (fits_ok (by omega) (by omega)), e1, law_Lsh_n (d - 1) false false 1 (shOk_of hN (by decide) (by omega)), ival_false, Nat.one_mul, intK_nat, law_Cmp_r _ _ (short_small hN (by omega)) hp1]
    cases (cmpN (m % 2 ^ d) (2 ^ (d - 1)) == 0) == true <;> rfl
theorem digs_head (q : Nat) : (digs q).getD 0 0 = ((q % 4294967296 : Nat) : Int) := by
  by_cases h : q = 0
  · subst h; rw [digs_zero]; rfl
  · rw [digs_pos h]; rfl
theorem law_Bit0 (N : Nat) (q : Nat) (k : Int → Bool) : s_q70 N 0 false (digs q) k = k ((q % 2 : Nat) : Int) := by
  unfold s_q70 G_q70
  rw [cond_false]
  unfold J_q127 J_q129
  have e0 : Int.tdiv 0 32 = 0 := by decide
  have e1 : Int.tmod 0 32 = 0 := by decide
  rw [e0, e1, and_tr (by decide)]
  by_cases h : q = 0
  · subst h; rw [digs_zero]; rfl
  · have hl : 0 < (digs q).length := by rw [digs_pos h]; simp
    rw [decide_eq_true (by omega), cond_true, and_tr (by decide), and_tr (inR_of (by decide) (by omega)), and_tr (by decide), cond_false]
    have e2 : Int.toNat 0 = 0 := rfl
    rw [e2, digs_head]
    have e3 : (min (Int.toNat (IntKind.wrap .u64 0)) 32) = 0 := by decide
    rw [e3]
    have e4 : Int.fdiv ((q % 4294967296 : Nat) : Int) (2 ^ 0) = ((q % 4294967296 : Nat) : Int) := by
      rw [show (2 : Int) ^ 0 = ((1 : Nat) : Int) from rfl, nat_fdiv, Nat.div_one]
    rw [e4, and1_32, wrap_u64 _ (by omega)]
    congr 1
    omega
theorem law_goesUp (N : Nat) (neg : Bool) (c : Int) (q : Nat) (k : Bool → Bool) : s_q7 N neg c false (digs q) k = k (decide (c > 0) || (decide (c = 0) && decide (q % 2 = 1))) := by
  unfold s_q7 G_q7
  by_cases h1 : c > 0
  · rw [decide_eq_true h1]; rfl
  · rw [decide_eq_false h1]
    by_cases h2 : c = 0
    · subst h2
      rw [show ((0 : Int) == 0) = true from rfl, law_Bit0]
      simp only [beq_self_eq_true, cond_true, Bool.false_or, decide_true, Bool.true_and]
      congr 1
      rw [Bool.eq_iff_iff]; simp; omega
    · have : (c == 0) = false := by simp [h2]
      rw [this, decide_eq_false h2]; rfl

/-! ### the tails -/
theorem tail_2 {N : Nat} (hN : 1000 ≤ N) (neg : Bool) (e : Int) (b : Bool) (b_1 : List Int) (L : Int) (q : Nat) (hL : -1074 ≤ L) (hL2 : L ≤ 100000) (hq : q < 9007199254740992) (hlow : q < 4503599627370496 → L = -1074) (k : Int → Int → Bool) :
    ∃ f, J_q139 N (s_q1 N) (s_q3 N) (s_q5 N) (s_q17 N) (s_q7 N) (s_q6 N) (s_q0 N) (s_q4 N) (s_q16 N) (s_q2 N) (s_q20 N) neg e b b_1 L false (digs q) k = k ((Ieee.double.word neg (min ((L + 1074).toNat * 4503599627370496 + q) 9218868437227405312) : Nat) : Int) f := by
  unfold J_q139
  have hbl := bl_le53 hq
  have hs : Short N (digs q) := short_small hN (by omega)
  rw [law_BitLen _ _ hs, and_tr (fits_ok (by omega) (by omega)), and_tr (fits_ok (by omega) (by omega))]
  by_cases ho : L + (bl q : Int) - 1 > 1023
  · rw [decide_eq_true ho, cond_true, law_over]
    have hq1 : ¬ q < 4503599627370496 := fun h => by have := hlow h; omega
    refine ⟨5, ?_⟩
    congr 3
    omega
  · rw [decide_eq_false ho, cond_false, law_BitLen _ _ hs]
    by_cases h53 : (bl q : Int) < 53
    · rw [decide_eq_true h53, cond_true]
      have hq1 := bl_lt53 (by omega : bl q < 53)
      rw [law_Uint64 _ _ _ (by omega), law_put_0 _ _ hq1]
      have := hlow hq1
      subst this
      refine ⟨0, ?_⟩
      congr 3
      omega
    · rw [decide_eq_false h53, cond_false, and_tr (fits_ok (by omega) (by omega)), and_tr (fits_ok (by omega) (by omega)), law_Uint64 _ _ _ (by omega), and52]
      have hq1 := bl_ge53 (by omega : ¬ bl q < 53)
      have e1 : L - -1074 + 1 = (((L + 1075).toNat : Nat) : Int) := by omega
      have hb53 : bl q = 53 := by omega
      rw [e1, law_put _ _ _ (by omega) (by omega)]
      refine ⟨0, ?_⟩
      congr 3
      omega
theorem tail_1 {N : Nat} (hN : 1000 ≤ N) (neg : Bool) (e : Int) (b : Bool) (b_1 : List Int) (top : Int) (L : Int) (q : Nat) (hL : -1074 ≤ L) (hL2 : L ≤ 90000) (hq : q ≤ 9007199254740992) (hlow : q < 4503599627370496 → L = -1074) (k : Int → Int → Bool) :
    ∃ f, J_q131 N (s_q1 N) (s_q3 N) (s_q5 N) (s_q17 N) (s_q7 N) (s_q6 N) (s_q0 N) (s_q4 N) (s_q16 N) (s_q2 N) (s_q20 N) neg e b b_1 top L false (digs q) k = k ((Ieee.double.word neg (min ((L + 1074).toNat * 4503599627370496 + q) 9218868437227405312) : Nat) : Int) f := by
  unfold J_q131
  have hs : Short N (digs q) := short_small hN (by omega)
  rw [law_BitLen _ _ hs]
  by_cases h : q < 9007199254740992
  · have hbl := bl_le53 h
    rw [decide_eq_false (by omega), cond_false]
    exact tail_2 hN neg e b b_1 L q hL (by omega) h hlow k
  · obtain rfl : q = 9007199254740992 := by omega
    rw [decide_eq_true (by rw [bl_2p53]; decide), cond_true, law_Rsh1 _ _ hs, show 9007199254740992 / 2 = 4503599627370496 by decide, and_tr (fits_ok (by omega) (by omega))]
    obtain ⟨f, hf⟩ := tail_2 hN neg e b b_1 (L + 1) 4503599627370496 (by omega) (by omega) (by decide) (fun h => absurd h (by decide)) k
    have e9 : ((L + 1 + 1074).toNat * 4503599627370496 + 4503599627370496) = ((L + 1074).toNat * 4503599627370496 + 9007199254740992) := by omega
    rw [e9] at hf
    exact ⟨f, hf⟩
theorem tail_4 {N : Nat} (hN : 1000 ≤ N) (neg : Bool) (e : Int) (b : Bool) (b_1 : List Int) (L : Int) (q : Nat) (hL : -1074 ≤ L) (hL2 : L ≤ 100000) (hq : q < 9007199254740992) (hlow : q < 4503599627370496 → L = -1074) (k : Int → Int → Bool) :
    ∃ f, J_q140 N (s_q1 N) (s_q3 N) (s_q5 N) (s_q17 N) (s_q7 N) (s_q6 N) (s_q0 N) (s_q4 N) (s_q16 N) (s_q2 N) (s_q20 N) neg e b b_1 L false (digs q) k = k ((Ieee.double.word neg (min ((L + 1074).toNat * 4503599627370496 + q) 9218868437227405312) : Nat) : Int) f := by
  unfold J_q140
  have hbl := bl_le53 hq
  have hs : Short N (digs q) := short_small hN (by omega)
  rw [law_BitLen _ _ hs, and_tr (fits_ok (by omega) (by omega)), and_tr (fits_ok (by omega) (by omega))]
  by_cases ho : L + (bl q : Int) - 1 > 1023
  · rw [decide_eq_true ho, cond_true, law_over]
    have hq1 : ¬ q < 4503599627370496 := fun h => by have := hlow h; omega
    refine ⟨5, ?_⟩
    congr 3
    omega
  · rw [decide_eq_false ho, cond_false, law_BitLen _ _ hs]
    by_cases h53 : (bl q : Int) < 53
    · rw [decide_eq_true h53, cond_true]
      have hq1 := bl_lt53 (by omega : bl q < 53)
      rw [law_Uint64 _ _ _ (by omega), law_put_0 _ _ hq1]
      have := hlow hq1
      subst this
      refine ⟨0, ?_⟩
      congr 3
      omega
    · rw [decide_eq_false h53, cond_false, and_tr (fits_ok (by omega) (by omega)), and_tr (fits_ok (by omega) (by omega)), law_Uint64 _ _ _ (by omega), and52]
      have hq1 := bl_ge53 (by omega : ¬ bl q < 53)
      have e1 : L - -1074 + 1 = (((L + 1075).toNat : Nat) : Int) := by omega
      have hb53 : bl q = 53 := by omega
      rw [e1, law_put _ _ _ (by omega) (by omega)]
      refine ⟨0, ?_⟩
      congr 3
      omega
theorem tail_3 {N : Nat} (hN : 1000 ≤ N) (neg : Bool) (e : Int) (b : Bool) (b_1 : List Int) (top : Int) (L : Int) (q : Nat) (hL : -1074 ≤ L) (hL2 : L ≤ 90000) (hq : q ≤ 9007199254740992) (hlow : q < 4503599627370496 → L = -1074) (k : Int → Int → Bool) :
    ∃ f, J_q132 N (s_q1 N) (s_q3 N) (s_q5 N) (s_q17 N) (s_q7 N) (s_q6 N) (s_q0 N) (s_q4 N) (s_q16 N) (s_q2 N) (s_q20 N) neg e b b_1 top L false (digs q) k = k ((Ieee.double.word neg (min ((L + 1074).toNat * 4503599627370496 + q) 9218868437227405312) : Nat) : Int) f := by
  unfold J_q132
  have hs : Short N (digs q) := short_small hN (by omega)
  rw [law_BitLen _ _ hs]
  by_cases h : q < 9007199254740992
  · have hbl := bl_le53 h
    rw [decide_eq_false (by omega), cond_false]
    exact tail_4 hN neg e b b_1 L q hL (by omega) h hlow k
  · obtain rfl : q = 9007199254740992 := by omega
    rw [decide_eq_true (by rw [bl_2p53]; decide), cond_true, law_Rsh1 _ _ hs, show 9007199254740992 / 2 = 4503599627370496 by decide, and_tr (fits_ok (by omega) (by omega))]
    obtain ⟨f, hf⟩ := tail_4 hN neg e b b_1 (L + 1) 4503599627370496 (by omega) (by omega) (by decide) (fun h => absurd h (by decide)) k
    have e9 : ((L + 1 + 1074).toNat * 4503599627370496 + 4503599627370496) = ((L + 1074).toNat * 4503599627370496 + 9007199254740992) := by omega
    rw [e9] at hf
    exact ⟨f, hf⟩
theorem tail_8 {N : Nat} (hN : 1000 ≤ N) (neg : Bool) (e : Int) (b : Bool) (b_1 : List Int) (L : Int) (fl : Int) (q : Nat) (hL : -1074 ≤ L) (hL2 : L ≤ 100000) (hq : q < 9007199254740992) (hlow : q < 4503599627370496 → L = -1074) (k : Int → Int → Bool) :
    ∃ f, J_q142 N (s_q1 N) (s_q3 N) (s_q5 N) (s_q17 N) (s_q7 N) (s_q6 N) (s_q0 N) (s_q4 N) (s_q16 N) (s_q2 N) (s_q20 N) neg e b b_1 L fl false (digs q) k = k ((Ieee.double.word neg (min ((L + 1074).toNat * 4503599627370496 + q) 9218868437227405312) : Nat) : Int) f := by
  unfold J_q142
  have hbl := bl_le53 hq
  have hs : Short N (digs q) := short_small hN (by omega)
  rw [law_BitLen _ _ hs, and_tr (fits_ok (by omega) (by omega)), and_tr (fits_ok (by omega) (by omega))]
  by_cases ho : L + (bl q : Int) - 1 > 1023
  · rw [decide_eq_true ho, cond_true, law_over]
    have hq1 : ¬ q < 4503599627370496 := fun h => by have := hlow h; omega
    refine ⟨5, ?_⟩
    congr 3
    omega
  · rw [decide_eq_false ho, cond_false, law_BitLen _ _ hs]
    by_cases h53 : (bl q : Int) < 53
    · rw [decide_eq_true h53, cond_true]
      have hq1 := bl_lt53 (by omega : bl q < 53)
      rw [law_Uint64 _ _ _ (by omega), law_put_0 _ _ hq1]
      have := hlow hq1
      subst this
      refine ⟨fl, ?_⟩
      congr 3
      omega
    · rw [decide_eq_false h53, cond_false, and_tr (fits_ok (by omega) (by omega)), and_tr (fits_ok (by omega) (by omega)), law_Uint64 _ _ _ (by omega), and52]
      have hq1 := bl_ge53 (by omega : ¬ bl q < 53)
      have e1 : L - -1074 + 1 = (((L + 1075).toNat : Nat) : Int) := by omega
      have hb53 : bl q = 53 := by omega
      rw [e1, law_put _ _ _ (by omega) (by omega)]
      refine ⟨fl, ?_⟩
      congr 3
      omega
theorem tail_7 {N : Nat} (hN : 1000 ≤ N) (neg : Bool) (e : Int) (b : Bool) (b_1 : List Int) (L : Int) (fl : Int) (q : Nat) (hL : -1074 ≤ L) (hL2 : L ≤ 90000) (hq : q ≤ 9007199254740992) (hlow : q < 4503599627370496 → L = -1074) (k : Int → Int → Bool) :
    ∃ f, J_q126 N (s_q1 N) (s_q3 N) (s_q5 N) (s_q17 N) (s_q7 N) (s_q6 N) (s_q0 N) (s_q4 N) (s_q16 N) (s_q2 N) (s_q20 N) neg e b b_1 L fl false (digs q) k = k ((Ieee.double.word neg (min ((L + 1074).toNat * 4503599627370496 + q) 9218868437227405312) : Nat) : Int) f := by
  unfold J_q126
  have hs : Short N (digs q) := short_small hN (by omega)
  rw [law_BitLen _ _ hs]
  by_cases h : q < 9007199254740992
  · have hbl := bl_le53 h
    rw [decide_eq_false (by omega), cond_false]
    exact tail_8 hN neg e b b_1 L fl q hL (by omega) h hlow k
  · obtain rfl : q = 9007199254740992 := by omega
    rw [decide_eq_true (by rw [bl_2p53]; decide), cond_true, law_Rsh1 _ _ hs, show 9007199254740992 / 2 = 4503599627370496 by decide, and_tr (fits_ok (by omega) (by omega))]
    obtain ⟨f, hf⟩ := tail_8 hN neg e b b_1 (L + 1) fl 4503599627370496 (by omega) (by omega) (by decide) (fun h => absurd h (by decide)) k
    have e9 : ((L + 1 + 1074).toNat * 4503599627370496 + 4503599627370496) = ((L + 1074).toNat * 4503599627370496 + 9007199254740992) := by omega
    rw [e9] at hf
    exact ⟨f, hf⟩
theorem tail_11 {N : Nat} (hN : 1000 ≤ N) (neg : Bool) (e : Int) (b : Bool) (b_1 : List Int) (L : Int) (fl : Int) (q : Nat) (hL : -1074 ≤ L) (hL2 : L ≤ 100000) (hq : q < 9007199254740992) (hlow : q < 4503599627370496 → L = -1074) (k : Int → Int → Bool) :
    ∃ f, J_q130 N (s_q1 N) (s_q3 N) (s_q5 N) (s_q17 N) (s_q7 N) (s_q6 N) (s_q0 N) (s_q4 N) (s_q16 N) (s_q2 N) (s_q20 N) neg e b b_1 L fl false (digs q) k = k ((Ieee.double.word neg (min ((L + 1074).toNat * 4503599627370496 + q) 9218868437227405312) : Nat) : Int) f := by
  unfold J_q130
  have hbl := bl_le53 hq
  have hs : Short N (digs q) := short_small hN (by omega)
  rw [law_BitLen _ _ hs, and_tr (fits_ok (by omega) (by omega)), and_tr (fits_ok (by omega) (by omega))]
  by_cases ho : L + (bl q : Int) - 1 > 1023
  · rw [decide_eq_true ho, cond_true, law_over]
    have hq1 : ¬ q < 4503599627370496 := fun h => by have := hlow h; omega
    refine ⟨5, ?_⟩
    congr 3
    omega
  · rw [decide_eq_false ho, cond_false, law_BitLen _ _ hs]
    by_cases h53 : (bl q : Int) < 53
    · rw [decide_eq_true h53, cond_true]
      have hq1 := bl_lt53 (by omega : bl q < 53)
      rw [law_Uint64 _ _ _ (by omega), law_put_0 _ _ hq1]
      have := hlow hq1
      subst this
      refine ⟨fl, ?_⟩
      congr 3
      omega
    · rw [decide_eq_false h53, cond_false, and_tr (fits_ok (by omega) (by omega)), and_tr (fits_ok (by omega) (by omega)), law_Uint64 _ _ _ (by omega), and52]
      have hq1 := bl_ge53 (by omega : ¬ bl q < 53)
      have e1 : L - -1074 + 1 = (((L + 1075).toNat : Nat) : Int) := by omega
      have hb53 : bl q = 53 := by omega
      rw [e1, law_put _ _ _ (by omega) (by omega)]
      refine ⟨fl, ?_⟩
      congr 3
      omega
theorem tail_10 {N : Nat} (hN : 1000 ≤ N) (neg : Bool) (e : Int) (b : Bool) (b_1 : List Int) (L : Int) (fl : Int) (q : Nat) (hL : -1074 ≤ L) (hL2 : L ≤ 90000) (hq : q ≤ 9007199254740992) (hlow : q < 4503599627370496 → L = -1074) (k : Int → Int → Bool) :
    ∃ f, J_q122 N (s_q1 N) (s_q3 N) (s_q5 N) (s_q17 N) (s_q7 N) (s_q6 N) (s_q0 N) (s_q4 N) (s_q16 N) (s_q2 N) (s_q20 N) neg e b b_1 L fl false (digs q) k = k ((Ieee.double.word neg (min ((L + 1074).toNat * 4503599627370496 + q) 9218868437227405312) : Nat) : Int) f := by
  unfold J_q122
  have hs : Short N (digs q) := short_small hN (by omega)
  rw [law_BitLen _ _ hs]
  by_cases h : q < 9007199254740992
  · have hbl := bl_le53 h
    rw [decide_eq_false (by omega), cond_false]
    exact tail_11 hN neg e b b_1 L fl q hL (by omega) h hlow k
  · obtain rfl : q = 9007199254740992 := by omega
    rw [decide_eq_true (by rw [bl_2p53]; decide), cond_true, law_Rsh1 _ _ hs, show 9007199254740992 / 2 = 4503599627370496 by decide, and_tr (fits_ok (by omega) (by omega))]
    obtain ⟨f, hf⟩ := tail_11 hN neg e b b_1 (L + 1) fl 4503599627370496 (by omega) (by omega) (by decide) (fun h => absurd h (by decide)) k
    have e9 : ((L + 1 + 1074).toNat * 4503599627370496 + 4503599627370496) = ((L + 1074).toNat * 4503599627370496 + 9007199254740992) := by omega
    rw [e9] at hf
    exact ⟨f, hf⟩
theorem tail_6 {N : Nat} (hN : 1000 ≤ N) (neg : Bool) (e : Int) (b : Bool) (b_1 : List Int) (top L c : Int) (q : Nat) (hL : -1074 ≤ L) (hL2 : L ≤ 90000) (hq : q ≤ 9007199254740992) (hlow : q < 4503599627370496 → L = -1074) (k : Int → Int → Bool) :
    ∃ f, J_q133 N (s_q1 N) (s_q3 N) (s_q5 N) (s_q17 N) (s_q7 N) (s_q6 N) (s_q0 N) (s_q4 N) (s_q16 N) (s_q2 N) (s_q20 N) neg e b b_1 top L c false (digs q) k = k ((Ieee.double.word neg (min ((L + 1074).toNat * 4503599627370496 + q) 9218868437227405312) : Nat) : Int) f := by
  unfold J_q133
  cases decide (c > -2) with
  | false => rw [cond_false]; exact tail_7 hN neg e b b_1 L 0 q hL hL2 hq hlow k
  | true =>
    rw [cond_true]
    cases decide (top < -1022) with
    | false => rw [cond_false]; exact tail_7 hN neg e b b_1 L 1 q hL hL2 hq hlow k
    | true => rw [cond_true]; exact tail_7 hN neg e b b_1 L 3 q hL hL2 hq hlow k
theorem tail_9 {N : Nat} (hN : 1000 ≤ N) (neg : Bool) (e : Int) (b : Bool) (b_1 : List Int) (top L c : Int) (q : Nat) (hL : -1074 ≤ L) (hL2 : L ≤ 90000) (hq : q ≤ 9007199254740992) (hlow : q < 4503599627370496 → L = -1074) (k : Int → Int → Bool) :
    ∃ f, J_q134 N (s_q1 N) (s_q3 N) (s_q5 N) (s_q17 N) (s_q7 N) (s_q6 N) (s_q0 N) (s_q4 N) (s_q16 N) (s_q2 N) (s_q20 N) neg e b b_1 top L c false (digs q) k = k ((Ieee.double.word neg (min ((L + 1074).toNat * 4503599627370496 + q) 9218868437227405312) : Nat) : Int) f := by
  unfold J_q134
  cases decide (c > -2) with
  | false => rw [cond_false]; exact tail_10 hN neg e b b_1 L 0 q hL hL2 hq hlow k
  | true =>
    rw [cond_true]
    cases decide (top < -1022) with
    | false => rw [cond_false]; exact tail_10 hN neg e b b_1 L 1 q hL hL2 hq hlow k
    | true => rw [cond_true]; exact tail_10 hN neg e b b_1 L 3 q hL hL2 hq hlow k

/-! ### what the model keeps -/
/-- half-way and more, as the model says it and as the document says it -/
def upN (n d : Nat) : Bool := decide (2 ^ d < 2 * (n % 2 ^ d)) || (2 ^ d == 2 * (n % 2 ^ d) && n / 2 ^ d % 2 == 1)
theorem cut_small (s : Bool) {n d : Nat} (h : d ≤ n.log2 + 2) : Toward.even.cut s n d = n / 2 ^ d + (upN n d).toNat := by
  unfold Toward.cut upN
  rw [Nat.min_eq_left h, Nat.one_shiftLeft]
theorem up_far {n d : Nat} (h : n.log2 + 2 ≤ d) (h0 : n ≠ 0) : n / 2 ^ d = 0 ∧ n % 2 ^ d = n ∧ upN n d = false := by
  have h1 : n < 2 ^ (n.log2 + 1) := Nat.lt_log2_self
  have h2 : 2 ^ (n.log2 + 2) ≤ 2 ^ d := Nat.pow_le_pow_right (by decide) h
  have h3 : 2 ^ (n.log2 + 2) = 2 * 2 ^ (n.log2 + 1) := by rw [Nat.pow_succ]; omega
  have h4 : n / 2 ^ d = 0 := Nat.div_eq_of_lt (by omega)
  have h5 : n % 2 ^ d = n := Nat.mod_eq_of_lt (by omega)
  refine ⟨h4, h5, ?_⟩
  unfold upN
  rw [h5, decide_eq_false (by omega), Bool.false_or]
  have : (2 ^ d == 2 * n) = false := by simp; omega
  rw [this]; rfl
theorem cut_up (s : Bool) {n : Nat} (h0 : n ≠ 0) (d : Nat) : Toward.even.cut s n d = n / 2 ^ d + (upN n d).toNat := by
  by_cases h : d ≤ n.log2 + 2
  · exact cut_small s h
  · have hfar : Toward.even.cut s n d = Toward.even.cut s n (n.log2 + 2) := by
      unfold Toward.cut
      rw [Nat.min_eq_right (by omega), Nat.min_self]
    obtain ⟨a1, a2, a3⟩ := up_far (n := n) (d := d) (by omega) h0
    obtain ⟨b1, b2, b3⟩ := up_far (n := n) (d := n.log2 + 2) (Nat.le_refl _) h0
    rw [hfar, cut_small s (Nat.le_refl _), a1, a3, b1, b3]
theorem up_cmp (m d : Nat) (h : 1 ≤ d) : (decide ((if m % 2 ^ d = 0 then -2 else cmpN (m % 2 ^ d) (2 ^ (d - 1))) > (0 : Int)) || (decide ((if m % 2 ^ d = 0 then -2 else cmpN (m % 2 ^ d) (2 ^ (d - 1))) = (0 : Int)) && decide (m / 2 ^ d % 2 = 1))) = upN m d := by
  have h2 : 2 ^ d = 2 * 2 ^ (d - 1) := by
    have : d = d - 1 + 1 := by omega
    rw [this, Nat.pow_succ, Nat.add_sub_cancel]; omega
  have hp : 0 < 2 ^ (d - 1) := Nat.two_pow_pos _
  unfold upN
  rw [h2]
  generalize 2 ^ (d - 1) = p at *
  generalize m % (2 * p) = r
  generalize m / (2 * p) = q
  unfold cmpN
  rw [Bool.eq_iff_iff]
  simp only [Bool.or_eq_true, Bool.and_eq_true, decide_eq_true_eq, beq_iff_eq]
  split
  · omega
  · split
    · omega
    · split <;> omega

theorem law_Round {N : Nat} (hN : 1000 ≤ N) (neg : Bool) (e : Int) (m : Nat) (h0 : m ≠ 0) (hm : m < 9007199254740992) (he1 : -6500 ≤ e) (he2 : e ≤ 6500) (k : Int → Int → Bool) :
    ∃ f, s_q82 N neg e false (digs m) k = k ((Ieee.double.nearest neg m e : Nat) : Int) f := by
  have hs : Short N (digs m) := short_small hN (by omega)
  have hl1 := Nat.log2_self_le h0
  have hl2 : m < 2 ^ (m.log2 + 1) := Nat.lt_log2_self
  have hl3 : m.log2 ≤ 52 := by
    have := bl_le53 hm
    rw [bl_log h0] at this
    omega
  have hn : Ieee.double.nearest neg m e = Ieee.double.word neg (min ((max (e + m.log2 - 52) (-1074) + 1074).toNat * 4503599627370496 + Toward.even.cut neg (m <<< (e - max (e + m.log2 - 52) (-1074)).toNat) (max (e + m.log2 - 52) (-1074) - e).toNat) 9218868437227405312) := by
    unfold Format.nearest
    rw [if_neg h0, leastPlace_d, binade_d, infRung_d]
    have hf : ((Ieee.double.fractionBits : Nat) : Int) = 52 := rfl
    have e74 : ∀ z : Int, z - -1074 = z + 1074 := fun z => by omega
    simp only [hf, e74]
  have hb : (bl m : Int) = (m.log2 : Int) + 1 := by rw [bl_log h0]; omega
  have hi : imm true (e + (bl m : Int) - 1 - 53 + 1) (-1074) = max (e + m.log2 - 52) (-1074) := by
    unfold imm; rw [cond_true]
    by_cases h : (-1074 : Int) > e + (bl m : Int) - 1 - 53 + 1
    · rw [decide_eq_true h, cond_true]; omega
    · rw [decide_eq_false h, cond_false]; omega
  have hL1 : -1074 ≤ max (e + (m.log2 : Int) - 52) (-1074) := by omega
  have hL2 : max (e + (m.log2 : Int) - 52) (-1074) ≤ 7000 := by omega
  have hL3 : max (e + (m.log2 : Int) - 52) (-1074) = -1074 ∨ max (e + (m.log2 : Int) - 52) (-1074) = e + m.log2 - 52 := by omega
  unfold s_q82 G_q82
  rw [hn, law_BitLen _ _ hs, and_tr (fits_ok (by omega) (by omega)), and_tr (fits_ok (by omega) (by omega)), and_tr (fits_ok (by omega) (by omega)), and_tr (fits_ok (by omega) (by omega)), law_Set _ _ _ hs]
  have hsg : sg false m = false := rfl
  rw [hsg, hi]
  generalize hLe : max (e + (m.log2 : Int) - 52) (-1074) = L at *
  by_cases hge : e ≥ L
  · have e1 : e - L = (((e - L).toNat : Nat) : Int) := by omega
    have e2 : (L - e).toNat = 0 := by omega
    have hd : (e - L).toNat + m.log2 ≤ 52 := by omega
    rw [decide_eq_true hge, cond_true, and_tr (fits_ok (by omega) (by omega)), e2, cut_zero]
    generalize hde : (e - L).toNat = d at *
    have hq1 : m * 2 ^ d < 9007199254740992 := by
      have h1 : m * 2 ^ d < 2 ^ (m.log2 + 1) * 2 ^ d := Nat.mul_lt_mul_of_pos_right hl2 (Nat.two_pow_pos d)
      rw [← Nat.pow_add] at h1
      have h2 : 2 ^ (m.log2 + 1 + d) ≤ 2 ^ 53 := Nat.pow_le_pow_right (by decide) (by omega)
      have h3 : (2 : Nat) ^ 53 = 9007199254740992 := by decide
      omega
    have hq2 : m * 2 ^ d < 4503599627370496 → L = -1074 := by
      intro h
      rcases hL3 with h3 | h3
      · exact h3
      · exfalso
        have h4 : d = 52 - m.log2 := by omega
        have h5 : 2 ^ m.log2 * 2 ^ d ≤ m * 2 ^ d := Nat.mul_le_mul_right _ hl1
        rw [← Nat.pow_add, h4, show m.log2 + (52 - m.log2) = 52 by omega] at h5
        have h6 : (2 : Nat) ^ 52 = 4503599627370496 := by decide
        rw [h4] at h
        omega
    rw [e1, wrap_u64 d (by omega), law_Lsh_r d false m (shOk_of hN (by omega) (by omega)), ival_false, intK_nat, Nat.shiftLeft_eq]
    unfold J_q138
    rw [law_goesUp, decide_eq_false (by decide), decide_eq_false (by decide), Bool.false_and, Bool.false_or, cond_false]
    exact tail_3 hN neg e false (digs m) _ L (m * 2 ^ d) hL1 (by omega) (by omega) hq2 k
  · have e1 : L - e = (((L - e).toNat : Nat) : Int) := by omega
    have e2 : (e - L).toNat = 0 := by omega
    rw [decide_eq_false hge, cond_false, and_tr (fits_ok (by omega) (by omega)), e2, Nat.shiftLeft_zero, cut_up neg h0]
    have hd1 : 1 ≤ (L - e).toNat := by omega
    have hd2 : (L - e).toNat ≤ 6900 := by omega
    generalize hde : (L - e).toNat = d at *
    rw [e1, law_cut02 hN m d (by omega) hd1 hd2]
    have hq0 : m / 2 ^ d < 9007199254740992 := by
      have := Nat.div_le_self m (2 ^ d); omega
    have hq2 : m / 2 ^ d < 4503599627370496 → L = -1074 := by
      intro h
      rcases hL3 with h3 | h3
      · exact h3
      · exfalso; omega
    unfold J_q141
    rw [law_goesUp, up_cmp m d hd1]
    cases hu : upN m d with
    | false =>
      rw [cond_false]
      exact tail_9 hN neg e false (digs m) _ L _ (m / 2 ^ d) hL1 (by omega) (by omega) hq2 k
    | true =>
      rw [cond_true, law_NewInt1 hN, law_Add_r false _ false 1 (short_small hN (by omega)) (short_small hN (by decide)) (short_small hN (by omega)), ival_false, ival_false]
      have e3 : ((m / 2 ^ d : Nat) : Int) + ((1 : Nat) : Int) = ((m / 2 ^ d + 1 : Nat) : Int) := by omega
      rw [e3, intK_nat]
      exact tail_6 hN neg e false (digs m) _ L _ (m / 2 ^ d + 1) hL1 (by omega) (by omega) (fun h => hq2 (by omega)) k
end Go.Proofs.YtldpkhfffeddiaaGreat
end
section
namespace Go.Proofs.YtldpkhfffeddiaaGreat
open Go Go.Mach Ieee
set_option linter.unusedVariables false

theorem law_SetUint64_r {N : Nat} (n : Nat) (hn : n < 18446744073709551616) (b : Bool) (l : List Int) (hN : Short N (digs n)) (h4 : 4 < N) (k : Bool → List Int → Bool) : s_q29 N n b l k = k false (digs n) := by
  unfold s_q29 G_q29
  rw [law_words n hn h4, law_put_r _ _ _ _ (digs_inW _) hN, mval_digs]
  rfl
theorem and11 (n : Nat) : bitsN .and .u64 (n : Int) 2047 = ((n % 2048 : Nat) : Int) := by
  have := bitsN_and_mask n 11 (by decide)
  simpa using this
theorem and01 (n : Nat) : bitsN .and .u64 (n : Int) 1 = ((n % 2 : Nat) : Int) := by
  have := bitsN_and_mask n 1 (by decide)
  simpa using this
theorem fdiv52 (b : Nat) : Int.fdiv (b : Int) (2 ^ 52) = ((b / 4503599627370496 : Nat) : Int) := by
  rw [show (2 : Int) ^ 52 = ((4503599627370496 : Nat) : Int) by decide, nat_fdiv]
theorem fdiv63 (b : Nat) : Int.fdiv (b : Int) (2 ^ 63) = ((b / 9223372036854775808 : Nat) : Int) := by
  rw [show (2 : Int) ^ 63 = ((9223372036854775808 : Nat) : Int) by decide, nat_fdiv]
theorem sign_eq (b : Nat) : (((b / 9223372036854775808 % 2 : Nat) : Int) == 1) = (b / 9223372036854775808 % 2 == 1) := by
  rw [Bool.eq_iff_iff, beq_iff_eq, beq_iff_eq]; omega
theorem orHidden (n : Nat) (h : n < 4503599627370496) : bitsN .or .u64 (n : Int) 4503599627370496 = ((4503599627370496 + n : Nat) : Int) := by
  have := bitsN_or_disj64 n 1 52 (by simpa using h) (by simp; omega)
  simpa using this

theorem law_Take {N : Nat} (hN : 1000 ≤ N) {b : Nat} (hb : W64 b) {s : Bool} {m : Nat} {i : Int} (h : Ieee.double.read b = .number s m i) (k0 : Bool → Bool) (k1 : Bool → Bool → List Int → Bool) (k2 : Bool → Int → Bool → List Int → Bool) (k3 : Bool → Bool → List Int → Bool) :
    (i = -1074 ∧ s_q86 N b k0 k1 k2 k3 = k3 s false (digs m)) ∨ s_q86 N b k0 k1 k2 k3 = k2 s i false (digs m) := by
  unfold W64 at hb
  unfold s_q86 G_q86
  rw [fdiv52, fdiv63, and52, and11, and01, sign_eq]
  obtain ⟨rfl, hlt, h⟩ := read_number h
  have hfr : b % 4503599627370496 < 4503599627370496 := Nat.mod_lt _ (by decide)
  rw [and_tr (fits_ok (by omega) (by omega)), law_SetUint64 _ (by omega) _ (short_small hN (by omega)) (by omega)]
  have e1 : (((b / 4503599627370496 % 2048 : Nat) : Int) == 2047) = false := by
    rw [beq_eq_false_iff_ne]; omega
  rw [e1, cond_false]
  rcases h with ⟨h1, rfl, rfl⟩ | ⟨h1, rfl, rfl⟩
  · refine .inl ⟨rfl, ?_⟩
    rw [decide_eq_false (by omega), cond_false]
    have : b % 4503599627370496 = b % 9223372036854775808 := by omega
    rw [this]
  · refine .inr ?_
    rw [decide_eq_true (by omega), cond_true, orHidden _ hfr, law_SetUint64_r _ (by omega) _ _ (short_small hN (by omega)) (by omega), and_tr (fits_ok (by omega) (by omega)), and_tr (fits_ok (by omega) (by omega)), and_tr (fits_ok (by omega) (by omega)), and_tr (fits_ok (by omega) (by omega))]
    have e2 : (((b / 4503599627370496 % 2048 : Nat) : Int) - 1 + -1022 - 53 + 1) = -1074 + ((b % 9223372036854775808 / 4503599627370496 - 1 : Nat) : Int) := by omega
    have e3 : 4503599627370496 + b % 4503599627370496 = 4503599627370496 + b % 9223372036854775808 % 4503599627370496 := by omega
    rw [e2, e3]

theorem law_same_2 {N : Nat} (hN : 1000 ≤ N) (s : Bool) (e : Int) (m : Nat) (hm : m < 9007199254740992) (he1 : -6500 ≤ e) (he2 : e ≤ 6500) (k : Int → Int → Bool) :
    ∃ f, s_q53 N 0 s e false (digs m) k = k ((Ieee.double.nearest s m e : Nat) : Int) f := by
  unfold s_q53 G_q53
  have h1 : ((0 : Int) == 2) = false := by decide
  have h2 : ((0 : Int) == 1) = false := by decide
  rw [h1, h2, cond_false, cond_false]
  unfold s_q94 G_q94
  have h3 : (((0 : Int) == 0) == true) = true := by decide
  rw [h3, cond_true, law_Sign_r]
  by_cases h0 : m = 0
  · subst h0
    rw [if_pos rfl, show ((0 : Int) == 0) = true by decide]
    dsimp only
    rw [cond_true, law_Nought, nearest_zero]
    exact ⟨_, rfl⟩
  · rw [if_neg h0]
    simp only [Bool.false_eq_true, if_false]
    rw [show ((1 : Int) == 0) = false by decide, cond_false]
    exact law_Round hN s e m h0 hm he1 he2 _
theorem clamp_id {k : Int} (h1 : -5000 ≤ k) (h2 : k ≤ 5000) : imm true (-5000) (imm false k 5000) = k := by
  unfold imm
  rw [cond_false, cond_true]
  rcases Int.lt_or_le 5000 k with h | h
  · omega
  · by_cases h5 : (5000 : Int) < k
    · omega
    · rw [decide_eq_false h5, cond_false]
      by_cases h6 : k > -5000
      · rw [decide_eq_true h6, cond_true]
      · rw [decide_eq_false h6, cond_false]; omega
theorem law_Scale {N : Nat} (hN : 1000 ≤ N) {b : Nat} (hb : W64 b) {s : Bool} {m : Nat} {i : Int} (h : Ieee.double.read b = .number s m i) {k : Int} (hk1 : -5000 ≤ k) (hk2 : k ≤ 5000) (κ : Int → Int → Int → Bool) :
    ∃ f g, s_q83 N b k κ = κ ((Ieee.double.nearest s m (i + k) : Nat) : Int) f g := by
  have hK : ∀ x, s_q60 N x = x := fun _ => rfl
  have hD : ∀ x, s_q40 N x = x := fun _ => rfl
  have hp := place_le h
  have hg := place_ge h
  unfold s_q83 G_q83
  rw [hK, hD, clamp_id hk1 hk2]
  rcases law_Take hN hb h _ _ _ _ with ⟨rfl, e⟩ | e
  · rw [e, and_tr (fits_ok (by omega) (by omega))]
    unfold J_q124
    rw [hD]
    obtain ⟨f, hf⟩ := law_same_2 hN s (-1074 + k) m hp.2 (by omega) (by omega) (fun a c => κ a c 0)
    exact ⟨f, 0, hf⟩
  · rw [e, and_tr (fits_ok (by omega) (by omega))]
    unfold J_q124
    rw [hD]
    obtain ⟨f, hf⟩ := law_same_2 hN s (i + k) m hp.2 (by omega) (by omega) (fun a c => κ a c 0)
    exact ⟨f, 0, hf⟩

/-! ### no NaN comes of rounding -/
theorem nearest_le (s : Bool) (m : Nat) (i : Int) : ∃ r, Ieee.double.nearest s m i = Ieee.double.word s r ∧ r ≤ 9218868437227405312 := by
  unfold Format.nearest
  split
  · exact ⟨0, rfl, by omega⟩
  · rw [infRung_d]; exact ⟨_, rfl, Nat.min_le_right _ _⟩
theorem read_word_le (s : Bool) {r : Nat} (h : r ≤ 9218868437227405312) : Ieee.double.read (Ieee.double.word s r) = .infinity s ∨ ∃ m i, Ieee.double.read (Ieee.double.word s r) = .number s m i := by
  have hw : Ieee.double.word s r % 9223372036854775808 = r := by
    unfold Format.word; rw [signWeight_d]; cases s <;> simp <;> omega
  have hs : (Ieee.double.word s r / 9223372036854775808 % 2 == 1) = s := by
    unfold Format.word; rw [signWeight_d]
    cases s
    · simp; omega
    · have : (9223372036854775808 + r) / 9223372036854775808 = 1 := by omega
      simp [this]
  unfold Format.read
  simp only [signWeight_d, binade_d, infRung_d, hw, hs]
  split
  · exact .inr ⟨_, _, rfl⟩
  · split
    · exact .inr ⟨_, _, rfl⟩
    · split
      · exact .inl rfl
      · omega
theorem nearest_W64 (s : Bool) (m : Nat) (i : Int) : W64 (Ieee.double.nearest s m i) := by
  obtain ⟨r, h, hr⟩ := nearest_le s m i
  rw [h]; exact word_W64 s (by omega)
theorem canon_nearest (s : Bool) (m : Nat) (i : Int) : canon (Ieee.double.nearest s m i) = some (Ieee.double.nearest s m i) := by
  obtain ⟨r, h, hr⟩ := nearest_le s m i
  have : isNaN (Ieee.double.nearest s m i) = false := by
    unfold isNaN
    rw [h]
    rcases read_word_le s hr with e | ⟨m, i, e⟩ <;> rw [e] <;> rfl
  unfold canon
  rw [this]; rfl

/-- a number times a power of two -/
def sclF (x : Fl) (k : Int) : Fl := match x with
  | some b => match Ieee.double.read b with
    | .number s m i => some (Ieee.double.nearest s m (i + k))
    | _ => some b
  | none => none
theorem sclF_num {b : Nat} {s : Bool} {m : Nat} {i : Int} (h : Ieee.double.read b = .number s m i) (k : Int) : sclF (some b) k = some (Ieee.double.nearest s m (i + k)) := by
  unfold sclF; simp only [h]
theorem law_Times {N : Nat} (hN : 1000 ≤ N) {x : Fl} (hx : finF x = true) (hw : FW x) {k : Int} (hk1 : -5000 ≤ k) (hk2 : k ≤ 5000) (κ : Fl → Bool) : s_q24 N x k κ = κ (sclF x k) := by
  obtain ⟨b, s, m, i, rfl, h⟩ := finF_num hx
  have hb := hw b rfl
  unfold s_q24 G_q24
  obtain ⟨f, g, hf⟩ := law_Scale hN hb h hk1 hk2 (fun (nr_1 : Int) (nr_2 : Int) (nr_3 : Int) => s_q39 N nr_1 (fun (xr : Fl) => κ xr))
  have e : s_q48 N (some b) = fun k => k (b : Int) := rfl
  rw [e]
  refine hf.trans ?_
  rw [sclF_num h]
  show κ (canon (Int.toNat ((Ieee.double.nearest s m (i + k) : Nat) : Int))) = _
  rw [Int.toNat_natCast, canon_nearest]
end Go.Proofs.YtldpkhfffeddiaaGreat
end
