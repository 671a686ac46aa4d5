/-
  PURE: matrices, roots and rows that may be: the program's checks and the document's.
  Conditions: N large, lists short.
-/
import Derived.Test.YtoagmokejfcpbaaP3
namespace Go.Proofs.Ytoagmokejfcpbaa
open Go Go.Mach

theorem iterG_eq0 {σ : Type} {step : σ → (σ → Bool) → Bool} {s : σ} (C : Nat → σ) (n : Nat) {N : Nat} (h0 : s = C 0) (hn : n < N) {out : Bool} (hs : ∀ i, i < n → ∀ K : σ → Bool, step (C i) K = K (C (i + 1))) (hx : ∀ K, step (C n) K = out) : iterG N step s = out := by
  subst h0; exact iterG_eq C n hn hs hx
theorem iterG_all0 {σ : Type} {step : σ → (σ → Bool) → Bool} {s : σ} (C : Nat → σ) (p : Nat → Bool) (n : Nat) {N : Nat} (h0 : s = C 0) (hn : n < N) {ex out : Bool}
    (hs : ∀ i, i < n → ∀ K : σ → Bool, step (C i) K = cond (p i) (K (C (i + 1))) ex) (hx : ∀ K, step (C n) K = out) : iterG N step s = cond (allN p n) out ex := by
  subst h0; exact iterG_all C p n hn hs hx
theorem idx_lt {n i j : Nat} (hi : i < n) (hj : j < n) : i * n + j < n * n := by
  have : (i + 1) * n ≤ n * n := Nat.mul_le_mul_right n hi
  rw [Nat.add_mul] at this; omega
theorem nn_le {n : Nat} (h : n ≤ 12) : n * n ≤ 144 := Nat.mul_le_mul h h
theorem in_le {n i : Nat} (h : n ≤ 12) (hi : i < n) : i * n ≤ 144 := Nat.mul_le_mul (by omega : i ≤ 12) h
theorem ne_dec (a b : Int) : (a != b) = !decide (a = b) := rfl

theorem law_size (N : Nat) (n : Int) (k : Bool → Bool) : s_matrix_size N n k = k (decide (0 ≤ n ∧ n ≤ 12)) := by
  unfold s_matrix_size G_matrix_size
  by_cases h1 : 0 ≤ n
  · rw [dec_true (p := n ≥ 0) h1]; simp [h1]
  · rw [dec_false (p := n ≥ 0) h1]; simp [h1]

/-- why a matrix may not be -/
def chk (r c : Int) (xs : List Fl) : Int := if (0 ≤ r ∧ r ≤ 12) ∧ (0 ≤ c ∧ c ≤ 12) then (if (xs.length : Int) = r * c then (if allFin xs = true then 0 else 4) else 3) else 1
theorem rc_fits {r c : Int} (hr : 0 ≤ r ∧ r ≤ 12) (hc : 0 ≤ c ∧ c ≤ 12) : fits .i64 (r * c) = true := by
  have h1 : 0 ≤ r * c := Int.mul_nonneg hr.1 hc.1
  have h2 : r * c ≤ 12 * 12 := Int.mul_le_mul hr.2 hc.2 hc.1 (by decide)
  exact fits_ok (by omega) (by omega)
theorem law_Check {N : Nat} (r c : Int) (xs : List Fl) (hl : Small N xs.length) (k : Int → Bool) : s_matrix_Check N r c xs k = k (chk r c xs) := by
  unfold s_matrix_Check G_matrix_Check chk
  simp only [law_size, law_Finite xs hl]
  by_cases hr : 0 ≤ r ∧ r ≤ 12
  · by_cases hc : 0 ≤ c ∧ c ≤ 12
    · rw [dec_true hr, dec_true hc, if_pos ⟨hr, hc⟩, ne_dec, rc_fits hr hc]
      by_cases hx : (xs.length : Int) = r * c
      · rw [dec_true hx, if_pos hx]; cases allFin xs <;> rfl
      · rw [dec_false hx, if_neg hx]; rfl
    · rw [dec_true hr, dec_false hc, if_neg (fun h => hc h.2)]; rfl
  · rw [dec_false hr, if_neg (fun h => hr h.1)]; rfl
theorem law_ref_Check {N : Nat} (r c : Int) (xs : List Fl) (hl : Small N xs.length) (k : Int → Bool) : s_binnacleref08_Check N r c xs k = k (chk r c xs) := by
  unfold s_binnacleref08_Check G_binnacleref08_Check chk
  simp only [law_AllFinite xs hl]
  by_cases hr : 0 ≤ r ∧ r ≤ 12
  · by_cases hc : 0 ≤ c ∧ c ≤ 12
    · rw [if_pos ⟨hr, hc⟩, ne_dec, rc_fits hr hc, dec_false (p := r < 0) (by omega), dec_false (p := r > 12) (by omega), dec_false (p := c < 0) (by omega), dec_false (p := c > 12) (by omega)]
      by_cases hx : (xs.length : Int) = r * c
      · rw [dec_true hx, if_pos hx]; cases allFin xs <;> rfl
      · rw [dec_false hx, if_neg hx]; rfl
    · rw [if_neg (fun h => hc h.2), dec_false (p := r < 0) (by omega), dec_false (p := r > 12) (by omega)]
      by_cases h : c < 0
      · rw [dec_true h]; rfl
      · rw [dec_false h, dec_true (p := c > 12) (by omega)]; rfl
  · rw [if_neg (fun h => hr h.1)]
    by_cases h : r < 0
    · rw [dec_true h]; rfl
    · rw [dec_false h, dec_true (p := r > 12) (by omega)]; rfl
theorem law_shape (N : Nat) (r c n : Int) (k : Int → Bool) : s_binnacleref03_shape N r c n k = k (if (0 ≤ r ∧ r ≤ 12) ∧ (0 ≤ c ∧ c ≤ 12) then (if n = r * c then 0 else 3) else 1) := by
  unfold s_binnacleref03_shape G_binnacleref03_shape
  by_cases hr : 0 ≤ r ∧ r ≤ 12
  · by_cases hc : 0 ≤ c ∧ c ≤ 12
    · rw [if_pos ⟨hr, hc⟩, ne_dec, rc_fits hr hc, dec_false (p := r < 0) (by omega), dec_false (p := r > 12) (by omega), dec_false (p := c < 0) (by omega), dec_false (p := c > 12) (by omega)]
      by_cases hx : n = r * c
      · rw [dec_true hx, if_pos hx]; rfl
      · rw [dec_false hx, if_neg hx]; rfl
    · rw [if_neg (fun h => hc h.2), dec_false (p := r < 0) (by omega), dec_false (p := r > 12) (by omega)]
      by_cases h : c < 0
      · rw [dec_true h]; rfl
      · rw [dec_false h, dec_true (p := c > 12) (by omega)]; rfl
  · rw [if_neg (fun h => hr h.1)]
    by_cases h : r < 0
    · rw [dec_true h]; rfl
    · rw [dec_false h, dec_true (p := r > 12) (by omega)]; rfl
theorem law_Good {N : Nat} (r c : Int) (xs : List Fl) (hl : Small N xs.length) (k : Int → Bool) : s_binnacleref03_Good N r c xs k = k (chk r c xs) := by
  unfold s_binnacleref03_Good G_binnacleref03_Good chk
  simp only [law_AllFinite xs hl, law_shape]
  by_cases hr : (0 ≤ r ∧ r ≤ 12) ∧ 0 ≤ c ∧ c ≤ 12
  · rw [if_pos hr, if_pos hr]
    by_cases hx : (xs.length : Int) = r * c
    · rw [if_pos hx, if_pos hx]; cases allFin xs <;> rfl
    · rw [if_neg hx, if_neg hx]; rfl
  · rw [if_neg hr, if_neg hr]; rfl
theorem chk_zero {r c : Int} {xs : List Fl} : chk r c xs = 0 ↔ ((0 ≤ r ∧ r ≤ 12) ∧ (0 ≤ c ∧ c ≤ 12)) ∧ (xs.length : Int) = r * c ∧ allFin xs = true := by
  unfold chk
  split
  · split
    · split
      · simp [*]
      · simp [*]
    · simp [*]
  · simp [*]

/-! ### squares -/
def elt (xs : List Fl) (n i j : Nat) : Fl := xs.getD (i * n + j) none
theorem law_at {N n : Nat} {xs : List Fl} {i j : Nat} (hn : n ≤ 12) (hl : xs.length = n * n) (hi : i < n) (hj : j < n) (k : Fl → Bool) : s_matrix_at N n n xs i j k = k (elt xs n i j) := by
  unfold s_matrix_at G_matrix_at
  have a1 := idx_lt hi hj
  have a2 := nn_le hn
  have a3 := in_le hn hi
  rw [toNat_idx, fits_ok (by omega) (by omega), fits_ok (by omega) (by omega), inR_of (by omega) (by omega)]
  rfl
theorem law_ref09_At {N n : Nat} {xs : List Fl} {i j : Nat} (hn : n ≤ 12) (hl : xs.length = n * n) (hi : i < n) (hj : j < n) (k : Fl → Bool) : s_binnacleref09_At N n n xs i j k = k (elt xs n i j) := law_at (N := N) hn hl hi hj k
theorem law_ref08_At {N n : Nat} {xs : List Fl} {i j : Nat} (hn : n ≤ 12) (hl : xs.length = n * n) (hi : i < n) (hj : j < n) (k : Fl → Bool) : s_binnacleref08_At N n n xs i j k = k (elt xs n i j) := law_at (N := N) hn hl hi hj k

def upP (xs : List Fl) (n i j : Nat) : Bool := decide (cn (elt xs n i j) = cn (some 0))
def lowRow (xs : List Fl) (n i : Nat) : Bool := allN (fun d => upP xs n i (i + 1 + d)) (n - (i + 1))
def lowP (xs : List Fl) (n : Nat) : Bool := allN (lowRow xs n) n
def diaP (xs : List Fl) (n i : Nat) : Bool := fgt (elt xs n i i) (some 0)
def abvP (xs : List Fl) (n : Nat) : Bool := allN (diaP xs n) n
theorem law_Lower {N n : Nat} {xs : List Fl} (hn : n ≤ 12) (hN : 12 < N) (hs : Small N xs.length) (hc : chk n n xs = 0) (k : Bool → Bool) : s_matrix_Lower N n n xs k = k (lowP xs n) := by
  have hl : xs.length = n * n := by have := (chk_zero.1 hc).2.1; exact_mod_cast this
  unfold s_matrix_Lower G_matrix_Lower
  simp only [law_Check _ _ xs hs, hc, ne_dec]
  simp only [decide_true, Bool.not_true, cond_false, beq_self_eq_true, cond_true]
  rw [← cond_k (lowP xs n) k]
  refine iterG_all0 (fun i => (i : Int)) (lowRow xs n) n rfl (by omega) (fun i hi K => ?_) (fun K => ?_)
  · simp only [st_matrix_Lower_0]
    rw [dec_true (by omega), cond_true, and_true_of (fits_ok (by omega) (by omega))]
    have := iterG_all0 (N := N) (step := st_matrix_Lower_2 N (s_matrix_Check N) (s_matrix_at N) (s_anatomy_Same_2 N) i n i n n xs k ((fits .i64 (i + 1)) && K (i + 1))) (s := (i : Int) + 1) (ex := k false) (out := K (i + 1)) (fun d => ((i + 1 + d : Nat) : Int)) (fun d => upP xs n i (i + 1 + d)) (n - (i + 1)) (by simp) (by omega) (fun d hd K => ?_) (fun K => ?_)
    · exact this
    · simp only [st_matrix_Lower_2]
      rw [dec_true (by omega), cond_true, law_at hn hl hi (by omega)]
      simp only [s_anatomy_Same_2]
      rw [and_true_of (fits_ok (by omega) (by omega))]
      show cond (!upP xs n i (i + 1 + d)) (k false) _ = _
      cases upP xs n i (i + 1 + d) <;> rfl
    · simp only [st_matrix_Lower_2]
      rw [dec_false (by omega), cond_false, and_true_of (fits_ok (by omega) (by omega))]
  · simp only [st_matrix_Lower_0]
    rw [dec_false (by omega), cond_false]
theorem law_above {N n : Nat} {xs : List Fl} (hn : n ≤ 12) (hN : 12 < N) (hl : xs.length = n * n) (k : Bool → Bool) : s_root_above N n n xs k = k (abvP xs n) := by
  unfold s_root_above G_root_above
  rw [← cond_k (abvP xs n) k]
  refine iterG_all0 (fun i => (i : Int)) (diaP xs n) n rfl (by omega) (fun i hi K => ?_) (fun K => ?_)
  · simp only [st_root_above_0]
    have a1 := idx_lt hi hi
    have a2 := nn_le hn
    have a3 := in_le hn hi
    rw [dec_true (by omega), cond_true, toNat_idx, and_true_of (fits_ok (by omega) (by omega)), and_true_of (fits_ok (by omega) (by omega)), and_true_of (inR_of (by omega) (by omega)), and_true_of (fits_ok (by omega) (by omega))]
    show cond (!diaP xs n i) (k false) _ = _
    cases diaP xs n i <;> rfl
  · simp only [st_root_above_0]
    rw [dec_false (by omega), cond_false]
theorem law_Triangle {N n : Nat} {xs : List Fl} (hn : n ≤ 12) (hN : 12 < N) (hs : Small N xs.length) (hc : chk n n xs = 0) (k : Int → Bool) : s_binnacleref09_Triangle N n n xs k = k (if lowP xs n = true ∧ abvP xs n = true then 0 else 93) := by
  have hl : xs.length = n * n := by have := (chk_zero.1 hc).2.1; exact_mod_cast this
  unfold s_binnacleref09_Triangle G_binnacleref09_Triangle
  simp only [law_Good _ _ xs hs, hc, ne_dec]
  simp only [decide_true, Bool.not_true, cond_false]
  have e : k (if lowP xs n = true ∧ abvP xs n = true then 0 else 93) = cond (allN (fun i => diaP xs n i && lowRow xs n i) n) (k 0) (k 93) := by
    have : allN (fun i => diaP xs n i && lowRow xs n i) n = (abvP xs n && lowP xs n) := by
      rw [Bool.eq_iff_iff, Bool.and_eq_true, abvP, lowP, allN_iff, allN_iff, allN_iff]
      constructor
      · intro h; exact ⟨fun i hi => by have := h i hi; simp at this; exact this.1, fun i hi => by have := h i hi; simp at this; exact this.2⟩
      · intro h i hi; rw [h.1 i hi, h.2 i hi]; rfl
    rw [this]
    cases abvP xs n <;> cases lowP xs n <;> rfl
  rw [e]
  refine iterG_all0 (fun i => (i : Int)) (fun i => diaP xs n i && lowRow xs n i) n rfl (by omega) (fun i hi K => ?_) (fun K => ?_)
  · simp only [st_binnacleref09_Triangle_0]
    rw [dec_true (by omega), cond_true, law_ref09_At hn hl hi hi, and_true_of (fits_ok (by omega) (by omega))]
    show cond (!diaP xs n i) (k 93) _ = _
    cases diaP xs n i
    · rfl
    · have := iterG_all0 (N := N) (step := st_binnacleref09_Triangle_2 N (s_binnacleref03_Good N) (s_binnacleref09_At N) (s_binnacleref01_Same N) i n n xs k ((fits .i64 (i + 1)) && K (i + 1))) (s := (i : Int) + 1) (ex := k 93) (out := K (i + 1)) (fun d => ((i + 1 + d : Nat) : Int)) (fun d => upP xs n i (i + 1 + d)) (n - (i + 1)) (by simp) (by omega) (fun d hd K => ?_) (fun K => ?_)
      · exact this
      · simp only [st_binnacleref09_Triangle_2]
        rw [dec_true (by omega), cond_true, law_ref09_At hn hl hi (by omega), law_ref_Same, and_true_of (fits_ok (by omega) (by omega))]
        show cond (!upP xs n i (i + 1 + d)) (k 93) _ = _
        cases upP xs n i (i + 1 + d) <;> rfl
      · simp only [st_binnacleref09_Triangle_2]
        rw [dec_false (by omega), cond_false, and_true_of (fits_ok (by omega) (by omega))]
  · simp only [st_binnacleref09_Triangle_0]
    rw [dec_false (by omega), cond_false]

/-- why a root may not be -/
def rchk (x : List Fl) (r c : Int) (xs : List Fl) : Int :=
  if chk r c xs ≠ 0 then chk r c xs else if r = c ∧ (x.length : Int) = r then (if allFin x = true then (if lowP xs x.length = true ∧ abvP xs x.length = true then 0 else 93) else 4) else 3
theorem law_root_Check {N : Nat} (x : List Fl) (r c : Int) (xs : List Fl) (hN : 12 < N) (hx : Small N x.length) (hs : Small N xs.length) (k : Int → Bool) : s_root_Check N x r c xs k = k (rchk x r c xs) := by
  unfold s_root_Check G_root_Check rchk
  simp only [law_Check _ _ xs hs, ne_dec]
  by_cases h0 : chk r c xs = 0
  · rw [dec_true h0, if_neg (by simpa using h0)]
    by_cases h1 : r = c
    · subst h1
      rw [dec_true (p := r = r) rfl]
      by_cases h2 : (x.length : Int) = r
      · subst h2
        rw [dec_true (p := (x.length : Int) = x.length) rfl]
        have hn : x.length ≤ 12 := by have := (chk_zero.1 h0).1; omega
        have hl : xs.length = x.length * x.length := by have := (chk_zero.1 h0).2.1; exact_mod_cast this
        simp only [law_Finite x hx, law_Lower hn hN hs h0, law_above hn hN hl]
        cases allFin x <;> cases lowP xs x.length <;> cases abvP xs x.length <;> rfl
      · rw [dec_false h2, if_neg (fun h => h2 h.2)]; rfl
    · rw [dec_false h1, if_neg (fun h => h1 h.1)]; rfl
  · rw [dec_false h0, if_pos h0]; rfl
theorem law_ref16_Check {N : Nat} (x : List Fl) (r c : Int) (xs : List Fl) (hN : 12 < N) (hx : Small N x.length) (hs : Small N xs.length) (k : Int → Bool) : s_binnacleref16_Check N x r c xs k = k (rchk x r c xs) := by
  unfold s_binnacleref16_Check G_binnacleref16_Check rchk
  simp only [law_ref_Check _ _ xs hs, ne_dec]
  by_cases h0 : chk r c xs = 0
  · rw [dec_true h0, if_neg (by simpa using h0)]
    by_cases h1 : r = c
    · subst h1
      rw [dec_true (p := r = r) rfl]
      by_cases h2 : (x.length : Int) = r
      · subst h2
        rw [dec_true (p := (x.length : Int) = x.length) rfl]
        have hn : x.length ≤ 12 := by have := (chk_zero.1 h0).1; omega
        simp only [law_AllFinite x hx, law_Triangle hn hN hs h0]
        cases allFin x <;> rfl
      · rw [dec_false h2, if_neg (fun h => h2 h.2)]; rfl
    · rw [dec_false h1, if_neg (fun h => h1 h.1)]; rfl
  · rw [dec_false h0, if_pos h0]; rfl
/-- why a row may not be -/
def wchk (n : Int) (h : List Fl) (r : Fl) : Int := if (h.length : Int) = n then (if allFin h = true ∧ finF r = true then (if fgt r (some 0) = true then 0 else 152) else 4) else 3
theorem law_checkRow {N : Nat} (n : Int) (h : List Fl) (r : Fl) (hs : Small N h.length) (k : Int → Bool) : s_root_checkRow N n h r k = k (wchk n h r) := by
  unfold s_root_checkRow G_root_checkRow wchk
  simp only [law_Finite h hs, law_finite, ne_dec]
  by_cases h1 : (h.length : Int) = n
  · rw [dec_true h1, if_pos h1]
    cases allFin h <;> cases finF r <;> cases fgt r (some 0) <;> rfl
  · rw [dec_false h1, if_neg h1]; rfl
theorem law_Row {N : Nat} (n : Int) (h : List Fl) (r : Fl) (hs : Small N h.length) (k : Int → Bool) : s_binnacleref15_Row N n h r k = k (wchk n h r) := by
  unfold s_binnacleref15_Row G_binnacleref15_Row wchk
  simp only [law_AllFinite h hs, law_ref_Finite, ne_dec]
  by_cases h1 : (h.length : Int) = n
  · rw [dec_true h1, if_pos h1]
    cases allFin h <;> cases finF r <;> cases fgt r (some 0) <;> rfl
  · rw [dec_false h1, if_neg h1]; rfl
theorem rchk_zero {x : List Fl} {r c : Int} {xs : List Fl} (h : rchk x r c xs = 0) : ∃ n : Nat, x.length = n ∧ r = n ∧ c = n ∧ n ≤ 12 ∧ xs.length = n * n ∧ allFin x = true ∧ allFin xs = true ∧ lowP xs n = true ∧ abvP xs n = true := by
  unfold rchk at h
  split at h
  · exact absurd h (by assumption)
  · rename_i h0
    have h0 : chk r c xs = 0 := by simpa using h0
    split at h
    · rename_i h1
      obtain ⟨rfl, h1⟩ := h1
      subst h1
      have q := chk_zero.1 h0
      split at h
      · split at h
        · rename_i h2 h3
          exact ⟨_, rfl, rfl, rfl, by omega, by exact_mod_cast q.2.1, h2, q.2.2, h3.1, h3.2⟩
        · cases h
      · cases h
    · cases h

end Go.Proofs.Ytoagmokejfcpbaa
