/-
  PURE: a row seen through a root (the program and the document).
  Conditions: N large, the root and the row may be.
-/
import Derived.Test.YtoagmokejfcpbaaP4
namespace Go.Proofs.Ytoagmokejfcpbaa
open Go Go.Mach

theorem toNat_succ (j : Nat) : Int.toNat ((j : Int) + 1) = j + 1 := by omega
/-! ### dot products -/
def dotV (xs ys : List Fl) : Nat → Fl
  | 0 => some 0
  | i + 1 => fadd (dotV xs ys i) (fmul (xs.getD i none) (ys.getD i none))
def dotO (xs ys : List Fl) : Nat → Bool
  | 0 => false
  | i + 1 => (dotO xs ys i || !finF (fmul (xs.getD i none) (ys.getD i none))) || !finF (dotV xs ys (i + 1))
theorem law_dot {N : Nat} (xs ys : List Fl) (o : Bool) (k : Fl → Bool → Bool) (h1 : xs.length ≤ ys.length) (h2 : Small N xs.length) :
    s_root_steps_dot N xs ys o k = k (dotV xs ys xs.length) (o || dotO xs ys xs.length) := by
  unfold s_root_steps_dot G_root_steps_dot
  have h3 := h2.2
  refine iterG_eq0 (fun i => (dotV xs ys i, (i : Int), o || dotO xs ys i)) xs.length (by simp [dotV, dotO]) h2.1 (fun i hi K => ?_) (fun K => ?_)
  · simp only [st_root_steps_dot_0, law_see, Int.toNat_natCast]
    rw [dec_true (by omega), cond_true, and_true_of (inR_of (by omega) (by omega)), and_true_of (inR_of (by omega) (by omega)), and_true_of (fits_ok (by omega) (by omega))]
    simp only [dotV, dotO, Bool.or_assoc]
    rfl
  · simp only [st_root_steps_dot_0]
    rw [dec_false (by omega), cond_false]
theorem law_ref_dot {N : Nat} (xs ys : List Fl) (o : Bool) (k : Fl → Bool → Bool) (h1 : xs.length ≤ ys.length) (h2 : Small N xs.length) :
    s_binnacleref09_Steps_Dot N xs ys o k = k (dotV xs ys xs.length) (o || dotO xs ys xs.length) := by
  unfold s_binnacleref09_Steps_Dot G_binnacleref09_Steps_Dot
  have h3 := h2.2
  refine iterG_eq0 (fun i => (dotV xs ys i, (i : Int), o || dotO xs ys i)) xs.length (by simp [dotV, dotO]) h2.1 (fun i hi K => ?_) (fun K => ?_)
  · simp only [st_binnacleref09_Steps_Dot_0, law_S, Int.toNat_natCast]
    rw [dec_true (by omega), cond_true, and_true_of (inR_of (by omega) (by omega)), and_true_of (inR_of (by omega) (by omega)), and_true_of (fits_ok (by omega) (by omega))]
    simp only [dotV, dotO, Bool.or_assoc]
    rfl
  · simp only [st_binnacleref09_Steps_Dot_0]
    rw [dec_false (by omega), cond_false]

/-! ### columns -/
def colL (xs : List Fl) (n j : Nat) : Nat → List Fl
  | 0 => []
  | i + 1 => colL xs n j i ++ [elt xs n i j]
theorem colL_length (xs : List Fl) (n j : Nat) : ∀ i, (colL xs n j i).length = i
  | 0 => rfl
  | i + 1 => by simp [colL, colL_length xs n j i]
theorem law_Col {N n : Nat} {xs : List Fl} {j : Nat} (hn : n ≤ 12) (hN : 12 < N) (hl : xs.length = n * n) (hj : j < n) (k : List Fl → Bool) : s_binnacleref08_Col N n n xs j k = k (colL xs n j n) := by
  unfold s_binnacleref08_Col G_binnacleref08_Col
  refine iterG_eq0 (fun i => ((i : Int), colL xs n j i)) n rfl (by omega) (fun i hi K => ?_) (fun K => ?_)
  · simp only [st_binnacleref08_Col_0]
    rw [dec_true (by omega), cond_true, law_ref08_At hn hl hi hj, and_true_of (dec_true (by simp [colL_length]; omega)), and_true_of (fits_ok (by omega) (by omega))]
    rfl
  · simp only [st_binnacleref08_Col_0]
    rw [dec_false (by omega), cond_false]

/-! ### what each column tells -/
def vL (xs h : List Fl) (n : Nat) : Nat → List Fl
  | 0 => List.replicate n (some 0)
  | j + 1 => (vL xs h n j).set j (dotV (colL xs n j n) h n)
def vO (xs h : List Fl) (n : Nat) : Nat → Bool
  | 0 => false
  | j + 1 => vO xs h n j || dotO (colL xs n j n) h n
theorem vL_length (xs h : List Fl) (n : Nat) : ∀ j, (vL xs h n j).length = n
  | 0 => by simp [vL]
  | j + 1 => by simp [vL, vL_length xs h n j]
def aStep (v a : List Fl) (j : Nat) : Fl := fadd (a.getD (j + 1) none) (fmul (v.getD j none) (v.getD j none))
def aL (v : List Fl) (r : Fl) (n : Nat) : Nat → List Fl
  | 0 => (List.replicate (n + 1) (some 0)).set n r
  | i + 1 => (aL v r n i).set (n - 1 - i) (aStep v (aL v r n i) (n - 1 - i))
def aO (v : List Fl) (r : Fl) (n : Nat) : Nat → Bool
  | 0 => false
  | i + 1 => (aO v r n i || !finF (fmul (v.getD (n - 1 - i) none) (v.getD (n - 1 - i) none))) || !finF (aStep v (aL v r n i) (n - 1 - i))
theorem aL_length (v : List Fl) (r : Fl) (n : Nat) : ∀ i, (aL v r n i).length = n + 1
  | 0 => by simp [aL]
  | i + 1 => by simp [aL, aL_length v r n i]

theorem law_foresee {N n : Nat} {x xs h : List Fl} {r : Fl} {o : Bool} (hN : 14 < N) (hn : n ≤ 12) (hx : x.length = n) (hl : xs.length = n * n) (hh : h.length = n) (k : Fl → Bool → List Fl → List Fl → Bool) :
    s_root_foresee N x n n xs h r o k = k (dotV h x n) (((o || vO xs h n n) || dotO h x n) || aO (vL xs h n n) r n n) (vL xs h n n) (aL (vL xs h n n) r n n) := by
  unfold s_root_foresee G_root_foresee
  simp only [hx, Int.toNat_natCast, toNat_succ, List.length_replicate]
  rw [and_true_of (mkOk_ok (by omega) (by omega) (by omega) (by omega)), and_true_of (fits_ok (by omega) (by omega)), and_true_of (mkOk_ok (by omega) (by omega) (by omega) (by omega))]
  refine iterG_eq0 (fun j => ((j : Int), o || vO xs h n j, vL xs h n j)) n (by simp [vO, vL]) (by omega) (fun j hj K => ?_) (fun K => ?_)
  · simp only [st_root_foresee_0]
    rw [dec_true (by omega), cond_true]
    refine iterG_eq0 (fun i => ((i : Int), colL xs n j i)) n rfl (by omega) (fun i hi K' => ?_) (fun K' => ?_)
    · simp only [st_root_foresee_2, toNat_idx]
      have a1 := idx_lt hi hj
      have a2 := nn_le hn
      have a3 := in_le hn hi
      rw [dec_true (by omega), cond_true, and_true_of (fits_ok (by omega) (by omega)), and_true_of (fits_ok (by omega) (by omega)), and_true_of (inR_of (by omega) (by omega)), and_true_of (dec_true (by simp [colL_length]; omega)), and_true_of (fits_ok (by omega) (by omega))]
      rfl
    · simp only [st_root_foresee_2]
      rw [dec_false (by omega), cond_false, law_dot _ _ _ _ (by rw [colL_length, hh]; exact Nat.le_refl _) ⟨by rw [colL_length]; omega, by rw [colL_length]; omega⟩]
      have e := vL_length xs h n j
      rw [and_true_of (inR_of (by omega) (by omega)), and_true_of (dec_true (by omega)), and_true_of (fits_ok (by omega) (by omega)), colL_length, Int.toNat_natCast]
      simp only [vL, vO, Bool.or_assoc]
      rfl
  · simp only [st_root_foresee_0]
    rw [dec_false (by omega), cond_false, law_dot _ _ _ _ (by omega) ⟨by omega, by omega⟩, and_true_of (inR_of (by omega) (by omega)), and_true_of (dec_true (by omega)), and_true_of (fits_ok (by omega) (by omega)), hh]
    generalize hv : vL xs h n n = v
    have hvl : v.length = n := by rw [← hv]; exact vL_length _ _ _ _
    generalize (o || vO xs h n n || dotO h x n) = o'
    refine iterG_eq0 (fun i => ((n : Int) - 1 - (i : Int), o' || aO v r n i, aL v r n i)) n (by simp [aO, aL]) (by omega) (fun i hi K' => ?_) (fun K' => ?_)
    · simp only [st_root_foresee_4, aL, aO]
      have e1 : (n : Int) - 1 - (i : Int) = ((n - 1 - i : Nat) : Int) := by omega
      have e2 : (n : Int) - 1 - ((i + 1 : Nat) : Int) = ((n - 1 - i : Nat) : Int) - 1 := by omega
      have e3 : n - 1 - i < n := by omega
      have e4 := aL_length v r n i
      rw [e1, e2]
      generalize n - 1 - i = j at *
      rw [dec_true (by omega), cond_true]
      simp only [law_see, Int.toNat_natCast, toNat_succ]
      rw [and_true_of (fits_ok (by omega) (by omega)), and_true_of (inR_of (by omega) (by omega)), and_true_of (dec_true (by omega)), and_true_of (inR_of (by omega) (by omega)), and_true_of (dec_true (by omega)), and_true_of (inR_of (by omega) (by omega)), and_true_of (dec_true (by omega)), and_true_of (inR_of (by omega) (by omega)), and_true_of (dec_true (by omega)), and_true_of (fits_ok (by omega) (by omega))]
      simp only [aStep, Bool.or_assoc]
    · simp only [st_root_foresee_4]
      rw [dec_false (by omega), cond_false]

theorem law_seen {N n : Nat} {x xs h : List Fl} {r : Fl} {o : Bool} (hN : 14 < N) (hn : n ≤ 12) (hx : x.length = n) (hl : xs.length = n * n) (hh : h.length = n) (k : Fl → Bool → List Fl → List Fl → Bool) :
    s_binnacleref16_seen N x n n xs h r o k = k (dotV h x n) (((o || dotO h x n) || vO xs h n n) || aO (vL xs h n n) r n n) (vL xs h n n) (aL (vL xs h n n) r n n) := by
  unfold s_binnacleref16_seen G_binnacleref16_seen
  simp only [hh, Int.toNat_natCast, toNat_succ, List.length_replicate]
  rw [and_true_of (mkOk_ok (by omega) (by omega) (by omega) (by omega)), and_true_of (fits_ok (by omega) (by omega)), and_true_of (mkOk_ok (by omega) (by omega) (by omega) (by omega)),
    law_ref_dot _ _ _ _ (by omega) ⟨by omega, by omega⟩, and_true_of (inR_of (by omega) (by omega)), and_true_of (dec_true (by omega)), hh]
  generalize (o || dotO h x n) = o1
  refine iterG_eq0 (fun j => ((j : Int), o1 || vO xs h n j, vL xs h n j)) n (by simp [vO, vL]) (by omega) (fun j hj K => ?_) (fun K => ?_)
  · simp only [st_binnacleref16_seen_0]
    rw [dec_true (by omega), cond_true, law_Col hn (by omega) hl hj, law_ref_dot _ _ _ _ (by rw [colL_length, hh]; exact Nat.le_refl _) ⟨by rw [colL_length]; omega, by rw [colL_length]; omega⟩]
    have e := vL_length xs h n j
    rw [and_true_of (inR_of (by omega) (by omega)), and_true_of (dec_true (by omega)), and_true_of (fits_ok (by omega) (by omega)), colL_length, Int.toNat_natCast]
    simp only [vL, vO, Bool.or_assoc]
    rfl
  · simp only [st_binnacleref16_seen_0]
    rw [dec_false (by omega), cond_false, and_true_of (fits_ok (by omega) (by omega))]
    generalize hv : vL xs h n n = v
    have hvl : v.length = n := by rw [← hv]; exact vL_length _ _ _ _
    generalize (o1 || vO xs h n n) = o'
    refine iterG_eq0 (fun i => ((n : Int) - 1 - (i : Int), o' || aO v r n i, aL v r n i)) n (by simp [aO, aL]) (by omega) (fun i hi K' => ?_) (fun K' => ?_)
    · simp only [st_binnacleref16_seen_2, aL, aO]
      have e1 : (n : Int) - 1 - (i : Int) = ((n - 1 - i : Nat) : Int) := by omega
      have e2 : (n : Int) - 1 - ((i + 1 : Nat) : Int) = ((n - 1 - i : Nat) : Int) - 1 := by omega
      have e3 : n - 1 - i < n := by omega
      have e4 := aL_length v r n i
      rw [e1, e2]
      generalize n - 1 - i = j at *
      rw [dec_true (by omega), cond_true]
      simp only [law_S, Int.toNat_natCast, toNat_succ]
      rw [and_true_of (fits_ok (by omega) (by omega)), and_true_of (inR_of (by omega) (by omega)), and_true_of (dec_true (by omega)), and_true_of (inR_of (by omega) (by omega)), and_true_of (dec_true (by omega)), and_true_of (inR_of (by omega) (by omega)), and_true_of (dec_true (by omega)), and_true_of (inR_of (by omega) (by omega)), and_true_of (dec_true (by omega)), and_true_of (fits_ok (by omega) (by omega))]
      simp only [aStep, Bool.or_assoc]
    · simp only [st_binnacleref16_seen_2]
      rw [dec_false (by omega), cond_false]

/-- did a step of what is foreseen overflow? -/
def fO (x xs h : List Fl) (r : Fl) (n : Nat) : Bool := (vO xs h n n || dotO h x n) || aO (vL xs h n n) r n n
def fA (xs h : List Fl) (r : Fl) (n : Nat) : List Fl := aL (vL xs h n n) r n n
/-- what is answered where it is foreseen -/
def foreK (x : List Fl) (r c : Int) (xs h : List Fl) (rr : Fl) (k : Fl → Fl → Int → Bool) : Bool :=
  if rchk x r c xs ≠ 0 then k (some 0) (some 0) (rchk x r c xs) else if wchk x.length h rr ≠ 0 then k (some 0) (some 0) (wchk x.length h rr)
  else cond (fO x xs h rr x.length) (k (some 0) (some 0) 5) (k (dotV h x x.length) ((fA xs h rr x.length).getD 0 none) 0)
theorem wchk_len {n : Nat} {h : List Fl} {r : Fl} (hw : wchk n h r = 0) : h.length = n := by
  unfold wchk at hw
  split at hw
  · omega
  · cases hw
theorem law_Foresee {N : Nat} (x : List Fl) (r c : Int) (xs h : List Fl) (rr : Fl) (hN : 14 < N) (hx : Small N x.length) (hs : Small N xs.length) (hh : Small N h.length) (k : Fl → Fl → Int → Bool) :
    s_root_Foresee N x r c xs h rr k = foreK x r c xs h rr k := by
  unfold s_root_Foresee G_root_Foresee foreK
  simp only [law_root_Check x r c xs (by omega) hx hs, law_checkRow _ h rr hh, ne_dec]
  by_cases h1 : rchk x r c xs = 0
  · obtain ⟨n, e1, rfl, rfl, hn, hl, -⟩ := rchk_zero h1
    rw [dec_true h1, if_neg (by simpa using h1)]
    by_cases h2 : wchk x.length h rr = 0
    · rw [dec_true h2, if_neg (by simpa using h2)]
      have e2 := wchk_len h2
      rw [law_foresee hN hn e1 hl (by omega), e1, Bool.false_or]
      have e4 := aL_length (vL xs h n n) rr n n
      rw [and_true_of (inR_of (by omega) (by omega)), and_true_of (dec_true (by omega))]
      unfold fO fA
      rfl
    · rw [dec_false h2, if_pos h2]; rfl
  · rw [dec_false h1, if_pos h1]; rfl
theorem law_First2 {N : Nat} (a b : Int) (hN : 14 < N) (k : Int → Bool) : s_binnacleref08_First N [a, b] k = k (if a ≠ 0 then a else b) := by
  obtain ⟨M, rfl⟩ : ∃ M, N = M + 10 := ⟨N - 10, by omega⟩
  have : s_binnacleref08_First (M + 10) [a, b] k = cond (a != 0) (k a) (cond (b != 0) (k b) (k 0)) := by kernel_rfl
  rw [this, ne_dec, ne_dec]
  by_cases h1 : a = 0 <;> by_cases h2 : b = 0 <;> simp [h1, h2]
theorem law_First3 {N : Nat} (a b c : Int) (hN : 14 < N) (k : Int → Bool) : s_binnacleref08_First N [a, b, c] k = k (if a ≠ 0 then a else if b ≠ 0 then b else c) := by
  obtain ⟨M, rfl⟩ : ∃ M, N = M + 10 := ⟨N - 10, by omega⟩
  have : s_binnacleref08_First (M + 10) [a, b, c] k = cond (a != 0) (k a) (cond (b != 0) (k b) (cond (c != 0) (k c) (k 0))) := by kernel_rfl
  rw [this, ne_dec, ne_dec, ne_dec]
  by_cases h1 : a = 0 <;> by_cases h2 : b = 0 <;> by_cases h3 : c = 0 <;> simp [h1, h2, h3]
theorem law_ref_Foresee {N : Nat} (x : List Fl) (r c : Int) (xs h : List Fl) (rr : Fl) (hN : 14 < N) (hx : Small N x.length) (hs : Small N xs.length) (hh : Small N h.length) (k : Fl → Fl → Int → Bool) :
    s_binnacleref16_Foresee N x r c xs h rr k = foreK x r c xs h rr k := by
  unfold s_binnacleref16_Foresee G_binnacleref16_Foresee foreK
  simp only [law_ref16_Check x r c xs (by omega) hx hs, law_Row _ h rr hh, law_First2 _ _ hN, ne_dec]
  by_cases h1 : rchk x r c xs = 0
  · obtain ⟨n, e1, rfl, rfl, hn, hl, -⟩ := rchk_zero h1
    have h1' : ¬ (rchk x n n xs ≠ 0) := by simpa using h1
    rw [if_neg h1', if_neg h1']
    by_cases h2 : wchk x.length h rr = 0
    · rw [dec_true h2, if_neg (by simpa using h2)]
      have e2 := wchk_len h2
      rw [law_seen hN hn e1 hl (by omega), e1, Bool.false_or]
      have e4 := aL_length (vL xs h n n) rr n n
      rw [and_true_of (inR_of (by omega) (by omega)), and_true_of (dec_true (by omega))]
      unfold fO fA
      rw [Bool.or_comm (dotO h x n)]
      rfl
    · rw [dec_false h2, if_pos h2]; rfl
  · rw [if_pos h1, if_pos h1, dec_false h1]; rfl

end Go.Proofs.Ytoagmokejfcpbaa
