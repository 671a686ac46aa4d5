/-
  PURE: the root filter's step (the program and the document): both are one and the same.
  Conditions: N large, the lists short.
-/
import Derived.Test.YtoagmokejfcpbaaP5
namespace Go.Proofs.Ytoagmokejfcpbaa
open Go Go.Mach

theorem law_fill {N n : Nat} (hN : 14 < N) (hn : n ≤ 12) (k : List Fl → Bool) : s_matrix_fill N n n k = k (List.replicate (n * n) (some 0)) := by
  have a2 := nn_le hn
  have a2' : ((n : Int) * (n : Int)) = ((n * n : Nat) : Int) := by simp
  unfold s_matrix_fill G_matrix_fill
  rw [a2', and_true_of (fits_ok (by omega) (by omega)), and_true_of (mkOk_ok (by omega) (by omega) (by omega) (by omega))]
  refine iterG_eq0 (fun i => ((i : Int), List.replicate (i * n) (some 0))) n (by simp) (by omega) (fun i hi K => ?_) (fun K => ?_)
  · simp only [st_matrix_fill_0]
    rw [dec_true (by omega), cond_true]
    have a3 := in_le hn hi
    refine iterG_eq0 (fun j => ((j : Int), List.replicate (i * n + j) (some 0))) n (by simp) (by omega) (fun j hj K' => ?_) (fun K' => ?_)
    · simp only [st_matrix_fill_2, s_matrix_Zero_1, G_matrix_Zero_1]
      rw [dec_true (by omega), cond_true, and_true_of (dec_true (by simp; omega)), and_true_of (fits_ok (by omega) (by omega)), ← List.replicate_succ']
      rfl
    · simp only [st_matrix_fill_2]
      rw [dec_false (by omega), cond_false, and_true_of (fits_ok (by omega) (by omega)), ← Nat.succ_mul]
      rfl
  · simp only [st_matrix_fill_0]
    rw [dec_false (by omega), cond_false]
theorem law_Zero {N n : Nat} (hN : 14 < N) (hn : n ≤ 12) (k0 : Int → Int → Int → Bool) (k1 : Int → List Fl → Bool) : s_matrix_Zero N n n k0 k1 = k1 0 (List.replicate (n * n) (some 0)) := by
  unfold s_matrix_Zero G_matrix_Zero
  simp only [law_size, law_fill hN hn]
  rw [dec_true ⟨by omega, by omega⟩]
  rfl
theorem law_Sqrt (N : Nat) (x : Fl) (k : Fl → Bool) : s_math_Sqrt N x k = k (fsqrt x) := rfl

/-! ### one column of the triangle, all columns -/
def inStep (xs v : List Fl) (n j : Nat) (c t : Fl) (i : Nat) (s : Bool × List Fl × List Fl) : Bool × List Fl × List Fl :=
  (((((s.1 || !finF (fmul c (elt xs n i j))) || !finF (fmul t (s.2.1.getD i none))) || !finF (fsub (fmul c (elt xs n i j)) (fmul t (s.2.1.getD i none)))) || !finF (fmul (v.getD j none) (elt xs n i j)))
      || !finF (fadd (s.2.1.getD i none) (fmul (v.getD j none) (elt xs n i j))),
    s.2.1.set i (fadd (s.2.1.getD i none) (fmul (v.getD j none) (elt xs n i j))),
    s.2.2.set (i * n + j) (fsub (fmul c (elt xs n i j)) (fmul t (s.2.1.getD i none))))
def inL (xs v : List Fl) (n j : Nat) (c t : Fl) (w L : List Fl) : Nat → Bool × List Fl × List Fl
  | 0 => (false, w, L)
  | d + 1 => inStep xs v n j c t (j + d) (inL xs v n j c t w L d)
theorem inL_length (xs v : List Fl) (n j : Nat) (c t : Fl) (w L : List Fl) : ∀ d, (inL xs v n j c t w L d).2.1.length = w.length ∧ (inL xs v n j c t w L d).2.2.length = L.length
  | 0 => ⟨rfl, rfl⟩
  | d + 1 => by simp [inL, inStep, inL_length xs v n j c t w L d]
def colC (a : List Fl) (j : Nat) : Fl := fdiv (fsqrt (a.getD (j + 1) none)) (fsqrt (a.getD j none))
def colPQ (a : List Fl) (j : Nat) : Fl := fmul (fsqrt (a.getD j none)) (fsqrt (a.getD (j + 1) none))
def colT (v a : List Fl) (j : Nat) : Fl := fdiv (v.getD j none) (colPQ a j)
def outStep (xs v a : List Fl) (n j : Nat) (s : Bool × List Fl × List Fl) : Bool × List Fl × List Fl :=
  let u := inL xs v n j (colC a j) (colT v a j) s.2.1 s.2.2 (n - j)
  ((((s.1 || !finF (colC a j)) || !finF (colPQ a j)) || !finF (colT v a j)) || u.1, u.2.1, u.2.2)
def outL (xs v a : List Fl) (n : Nat) : Nat → Bool × List Fl × List Fl
  | 0 => (false, List.replicate n (some 0), List.replicate (n * n) (some 0))
  | i + 1 => outStep xs v a n (n - 1 - i) (outL xs v a n i)
theorem outL_length (xs v a : List Fl) (n : Nat) : ∀ i, (outL xs v a n i).2.1.length = n ∧ (outL xs v a n i).2.2.length = n * n
  | 0 => by simp [outL]
  | i + 1 => by
    have h := inL_length xs v n (n - 1 - i) (colC a (n - 1 - i)) (colT v a (n - 1 - i)) (outL xs v a n i).2.1 (outL xs v a n i).2.2 (n - (n - 1 - i))
    have h' := outL_length xs v a n i
    exact ⟨h.1.trans h'.1, h.2.trans h'.2⟩

theorem law_carlson {N n : Nat} {x xs v a : List Fl} {m : Fl} {o : Bool} (hN : 14 < N) (hn : n ≤ 12) (hx : x.length = n) (hl : xs.length = n * n) (hv : v.length = n) (ha : a.length = n + 1) (k0 : Int → Int → Bool → List Fl → Bool) (k1 : Int → Int → Bool → List Fl → List Fl → Bool) :
    s_root_carlson N x n n xs m v a o k0 k1 = k1 n n (o || (outL xs v a n n).1) (outL xs v a n n).2.2 (outL xs v a n n).2.1 := by
  unfold s_root_carlson G_root_carlson
  simp only [hx, law_Zero hN hn, Int.toNat_natCast]
  rw [and_true_of (mkOk_ok (by omega) (by omega) (by omega) (by omega)), and_true_of (fits_ok (by omega) (by omega))]
  refine iterG_eq0 (fun i => ((n : Int) - 1 - (i : Int), o || (outL xs v a n i).1, (outL xs v a n i).2.1, (outL xs v a n i).2.2)) n (by simp [outL]) (by omega) (fun i hi K => ?_) (fun K => ?_)
  · simp only [st_root_carlson_0_1, outL]
    have e1 : (n : Int) - 1 - (i : Int) = ((n - 1 - i : Nat) : Int) := by omega
    have e2 : (n : Int) - 1 - ((i + 1 : Nat) : Int) = ((n - 1 - i : Nat) : Int) - 1 := by omega
    have e3 : n - 1 - i < n := by omega
    have e4 := outL_length xs v a n i
    rw [e1, e2]
    generalize n - 1 - i = j at *
    generalize outL xs v a n i = s at *
    obtain ⟨s1, w, L⟩ := s
    simp only at e4 ⊢
    rw [dec_true (by omega), cond_true]
    simp only [law_see, law_Sqrt, Int.toNat_natCast, toNat_succ]
    rw [and_true_of (inR_of (by omega) (by omega)), and_true_of (fits_ok (by omega) (by omega)), and_true_of (inR_of (by omega) (by omega)), and_true_of (inR_of (by omega) (by omega))]
    simp only [outStep]
    refine iterG_eq0 (fun d => ((j : Int) + (d : Int), ((((o || s1) || !finF (colC a j)) || !finF (colPQ a j)) || !finF (colT v a j)) || (inL xs v n j (colC a j) (colT v a j) w L d).1, (inL xs v n j (colC a j) (colT v a j) w L d).2.1, (inL xs v n j (colC a j) (colT v a j) w L d).2.2)) (n - j) (by simp [inL, colC, colPQ, colT]) (by omega) (fun d hd K' => ?_) (fun K' => ?_)
    · have e5 : (j : Int) + (d : Int) = ((j + d : Nat) : Int) := by omega
      have e6 : (j : Int) + ((d + 1 : Nat) : Int) = ((j + d : Nat) : Int) + 1 := by omega
      rw [e5, e6]
      simp only [st_root_carlson_2_1, inL]
      have e7 := inL_length xs v n j (colC a j) (colT v a j) w L d
      have e8 : j + d < n := by omega
      generalize hi' : j + d = i' at *
      generalize inL xs v n j (colC a j) (colT v a j) w L d = u at *
      obtain ⟨u1, w', L'⟩ := u
      simp only at e7 ⊢
      have a1 := idx_lt e8 e3
      have a2 := nn_le hn
      have a3 := in_le hn e8
      rw [dec_true (by omega), cond_true]
      simp only [law_see, Int.toNat_natCast, toNat_idx]
      rw [and_true_of (fits_ok (by omega) (by omega)), and_true_of (fits_ok (by omega) (by omega)), and_true_of (inR_of (by omega) (by omega)), and_true_of (fits_ok (by omega) (by omega)), and_true_of (fits_ok (by omega) (by omega)),
        and_true_of (inR_of (by omega) (by omega)), and_true_of (dec_true (by omega)), and_true_of (inR_of (by omega) (by omega)), and_true_of (dec_true (by omega)),
        and_true_of (inR_of (by omega) (by omega)), and_true_of (dec_true (by omega)), and_true_of (inR_of (by omega) (by omega)), and_true_of (inR_of (by omega) (by omega)), and_true_of (dec_true (by omega)), and_true_of (fits_ok (by omega) (by omega))]
      simp only [inStep, elt, colC, colPQ, colT, Bool.or_assoc]
    · simp only [st_root_carlson_2_1]
      rw [dec_false (by omega), cond_false, and_true_of (fits_ok (by omega) (by omega))]
      simp only [Bool.or_assoc]
  · simp only [st_root_carlson_0_1]
    rw [dec_false (by omega), cond_false]

/-! ### gains and new numbers -/
def gL (w a : List Fl) : Nat → List Fl
  | 0 => []
  | i + 1 => gL w a i ++ [fdiv (w.getD i none) (a.getD 0 none)]
def xL (x w a : List Fl) (y : Fl) : Nat → List Fl
  | 0 => []
  | i + 1 => xL x w a y i ++ [fadd (x.getD i none) (fmul (fdiv (w.getD i none) (a.getD 0 none)) y)]
def gO (x w a : List Fl) (y : Fl) : Nat → Bool
  | 0 => false
  | i + 1 => ((gO x w a y i || !finF (fdiv (w.getD i none) (a.getD 0 none))) || !finF (fmul (fdiv (w.getD i none) (a.getD 0 none)) y)) || !finF (fadd (x.getD i none) (fmul (fdiv (w.getD i none) (a.getD 0 none)) y))
theorem gL_length (w a : List Fl) : ∀ i, (gL w a i).length = i
  | 0 => rfl
  | i + 1 => by simp [gL, gL_length w a i]
theorem xL_length (x w a : List Fl) (y : Fl) : ∀ i, (xL x w a y i).length = i
  | 0 => rfl
  | i + 1 => by simp [xL, xL_length x w a y i]

/-- the new triangle and what the gain is made of -/
def uC (xs h : List Fl) (r : Fl) (n : Nat) : Bool × List Fl × List Fl := outL xs (vL xs h n n) (fA xs h r n) n n
def uY (x h : List Fl) (z : Fl) (n : Nat) : Fl := fsub z (dotV h x n)
def uS (xs h : List Fl) (r y : Fl) (n : Nat) : Fl := fdiv (fmul y y) ((fA xs h r n).getD 0 none)
/-- did a step overflow? -/
def uO (x xs h : List Fl) (r z : Fl) (n : Nat) : Bool :=
  ((((fO x xs h r n || !finF (uY x h z n)) || (uC xs h r n).1) || !finF (fmul (uY x h z n) (uY x h z n))) || !finF (uS xs h r (uY x h z n) n)) || gO x (uC xs h r n).2.1 (fA xs h r n) (uY x h z n) n
def updK (x : List Fl) (r c : Int) (xs h : List Fl) (rr z : Fl) (k0 : Int → Int → Fl → Fl → Fl → Int → Bool) (k2 : Int → Int → Fl → Fl → Fl → Int → List Fl → List Fl → List Fl → Bool) : Bool :=
  let n := x.length
  if rchk x r c xs ≠ 0 then k0 0 0 (some 0) (some 0) (some 0) (rchk x r c xs) else if wchk n h rr ≠ 0 then k0 0 0 (some 0) (some 0) (some 0) (wchk n h rr)
  else if finF z = true then cond (uO x xs h rr z n) (k0 0 0 (some 0) (some 0) (some 0) 5) (cond (abvP (uC xs h rr n).2.2 n)
      (k2 n n (uY x h z n) ((fA xs h rr n).getD 0 none) (uS xs h rr (uY x h z n) n) 0 (xL x (uC xs h rr n).2.1 (fA xs h rr n) (uY x h z n) n) (uC xs h rr n).2.2 (gL (uC xs h rr n).2.1 (fA xs h rr n) n)) (k0 0 0 (some 0) (some 0) (some 0) 93))
  else k0 0 0 (some 0) (some 0) (some 0) 4

theorem law_Update {N : Nat} (x : List Fl) (r c : Int) (xs h : List Fl) (rr z : Fl) (hN : 14 < N) (hx : Small N x.length) (hs : Small N xs.length) (hh : Small N h.length)
    (k0 : Int → Int → Fl → Fl → Fl → Int → Bool) (k1 : Int → Int → Fl → Fl → Fl → Int → List Fl → List Fl → Bool) (k2 : Int → Int → Fl → Fl → Fl → Int → List Fl → List Fl → List Fl → Bool) :
    s_root_Update N x r c xs h rr z k0 k1 k2 = updK x r c xs h rr z k0 k2 := by
  unfold s_root_Update G_root_Update updK
  simp only [law_root_Check x r c xs (by omega) hx hs, law_checkRow _ h rr hh, law_finite, ne_dec]
  by_cases h1 : rchk x r c xs = 0
  · obtain ⟨n, e1, rfl, rfl, hn, hl, -⟩ := rchk_zero h1
    have h1' : ¬ (rchk x n n xs ≠ 0) := by simpa using h1
    rw [dec_true h1, if_neg h1']
    by_cases h2 : wchk x.length h rr = 0
    · rw [dec_true h2, if_neg (by simpa using h2)]
      have e2 := wchk_len h2
      cases h3 : finF z with
      | false => rfl
      | true =>
        simp only [Bool.not_true, cond_false, if_true]
        rw [law_foresee hN hn e1 hl (by omega), e1]
        simp only [Bool.false_or]
        have e4 := aL_length (vL xs h n n) rr n n
        have e5 := vL_length xs h n n
        simp only [law_see]
        rw [law_carlson hN hn e1 hl e5 e4]
        have hu0 : outL xs (vL xs h n n) (aL (vL xs h n n) rr n n) n n = uC xs h rr n := rfl
        have hA0 : aL (vL xs h n n) rr n n = fA xs h rr n := rfl
        have hy0 : fsub z (dotV h x n) = uY x h z n := rfl
        rw [and_true_of (inR_of (by omega) (by omega)), and_true_of (dec_true (by omega)), and_true_of (inR_of (by omega) (by omega)), and_true_of (dec_true (by omega))]
        simp only [hu0]
        simp only [hA0, hy0]
        have e7 : (fA xs h rr n).length = n + 1 := e4
        have hf0 : (vO xs h n n || dotO h x n || aO (vL xs h n n) rr n n) = fO x xs h rr n := rfl
        simp only [hf0]
        cases hf : fO x xs h rr n with
        | true => simp only [cond_true, uO, hf, Bool.true_or]
        | false =>
          rw [cond_false]
          have hS0 : fdiv (fmul (uY x h z n) (uY x h z n)) ((fA xs h rr n).getD 0 none) = uS xs h rr (uY x h z n) n := rfl
          simp only [hS0]
          have e6 : (uC xs h rr n).2.1.length = n ∧ (uC xs h rr n).2.2.length = n * n := outL_length _ _ _ _ _
          simp only [uO, hf]
          generalize hS1 : uS xs h rr (uY x h z n) n = sc at *
          generalize ((((false || !finF (uY x h z n)) || (uC xs h rr n).1) || !finF (fmul (uY x h z n) (uY x h z n))) || !finF sc) = o
          generalize hu : uC xs h rr n = u at *
          generalize hA : fA xs h rr n = a at *
          generalize hy : uY x h z n = y at *
          refine iterG_eq0 (fun i => ((i : Int), o || gO x u.2.1 a y i, gL u.2.1 a i, xL x u.2.1 a y i)) n (by simp [gO, gL, xL]) (by omega) (fun i hi K => ?_) (fun K => ?_)
          · simp only [st_root_Update_0_1, law_see, Int.toNat_natCast]
            rw [dec_true (by omega), cond_true, and_true_of (inR_of (by omega) (by omega)), and_true_of (dec_true (by omega)), and_true_of (inR_of (by omega) (by omega)), and_true_of (dec_true (by omega)), and_true_of (dec_true (by simp [gL_length]; omega)),
              and_true_of (inR_of (by omega) (by omega)), and_true_of (dec_true (by simp [xL_length]; omega)), and_true_of (fits_ok (by omega) (by omega))]
            simp only [gL, xL, gO, Bool.or_assoc]
            rfl
          · simp only [st_root_Update_0_1, law_above hn (by omega : 12 < N) e6.2]
            rw [dec_false (by omega), cond_false]
            cases o || gO x u.2.1 a y n <;> cases abvP u.2.2 n <;> rfl
    · rw [dec_false h2, if_pos h2]; rfl
  · rw [dec_false h1, if_pos h1]; rfl

/-! ### the document's -/
theorem law_ended {N n : Nat} {X L : List Fl} (hN : 14 < N) (hn : n ≤ 12) (hl : L.length = n * n) (k0 : Int → Int → Int → Bool) (k1 : Int → Bool) : s_binnacleref16_ended N n n X L k0 k1 = cond (abvP L n) (k1 0) (k0 0 0 93) := by
  unfold s_binnacleref16_ended G_binnacleref16_ended
  refine iterG_all0 (fun i => (i : Int)) (diaP L n) n rfl (by omega) (fun i hi K => ?_) (fun K => ?_)
  · simp only [st_binnacleref16_ended_0, s_binnacleref08_At_2, G_binnacleref08_At_2]
    have a1 := idx_lt hi hi
    have a2 := nn_le hn
    have a3 := in_le hn hi
    rw [dec_true (by omega), cond_true, toNat_idx, and_true_of (fits_ok (by omega) (by omega)), and_true_of (fits_ok (by omega) (by omega)), and_true_of (inR_of (by omega) (by omega)), and_true_of (dec_true (by omega)), and_true_of (fits_ok (by omega) (by omega))]
    show cond (!diaP L n i) (k0 0 0 93) _ = _
    cases diaP L n i <;> rfl
  · simp only [st_binnacleref16_ended_0]
    rw [dec_false (by omega), cond_false]
theorem law_Raw {N n : Nat} (hn : n ≤ 12) (k : List Fl → Bool) : s_binnacleref08_Raw N n n k = k (List.replicate (n * n) (some 0)) := by
  have a2 := nn_le hn
  have a2' : ((n : Int) * (n : Int)) = ((n * n : Nat) : Int) := by simp
  unfold s_binnacleref08_Raw G_binnacleref08_Raw
  rw [a2', and_true_of (fits_ok (by omega) (by omega)), and_true_of (mkOk_ok (by omega) (by omega) (by omega) (by omega)), Int.toNat_natCast]
theorem law_Put {N n i j : Nat} {y : Fl} {L : List Fl} (hn : n ≤ 12) (hl : L.length = n * n) (hi : i < n) (hj : j < n) (k : List Fl → Bool) : s_binnacleref08_Put N n n i j y L k = k (L.set (i * n + j) y) := by
  unfold s_binnacleref08_Put G_binnacleref08_Put
  have a1 := idx_lt hi hj
  have a2 := nn_le hn
  have a3 := in_le hn hi
  rw [toNat_idx, and_true_of (fits_ok (by omega) (by omega)), and_true_of (fits_ok (by omega) (by omega)), and_true_of (inR_of (by omega) (by omega)), and_true_of (dec_true (by omega))]
theorem law_If (N : Nat) (b : Bool) (e : Int) (k : Int → Bool) : s_binnacleref08_If N b e k = k (if b = true then e else 0) := by cases b <;> rfl
theorem getD_gL (w a : List Fl) (i : Nat) (g : Fl) : (gL w a i ++ [g]).getD i none = g := by
  rw [List.getD_eq_getElem?_getD, List.getElem?_append_right (by simp [gL_length]), gL_length]; simp

theorem law_ref_Update {N : Nat} (x : List Fl) (r c : Int) (xs h : List Fl) (rr z : Fl) (hN : 14 < N) (hx : Small N x.length) (hs : Small N xs.length) (hh : Small N h.length)
    (k0 : Int → Int → Fl → Fl → Fl → Int → Bool) (k1 : Int → Int → Fl → Fl → Fl → Int → List Fl → Bool) (k2 : Int → Int → Fl → Fl → Fl → Int → List Fl → List Fl → List Fl → Bool) :
    s_binnacleref16_Update N x r c xs h rr z k0 k1 k2 = updK x r c xs h rr z k0 k2 := by
  unfold s_binnacleref16_Update G_binnacleref16_Update updK
  simp only [law_ref16_Check x r c xs (by omega) hx hs, law_Row _ h rr hh, law_ref_Finite, law_If, law_First3 _ _ _ hN, ne_dec]
  by_cases h1 : rchk x r c xs = 0
  · obtain ⟨n, e1, rfl, rfl, hn, hl, -⟩ := rchk_zero h1
    have h1' : ¬ (rchk x n n xs ≠ 0) := by simpa using h1
    rw [if_neg h1', if_neg h1']
    by_cases h2 : wchk x.length h rr = 0
    · have h2' : ¬ (wchk x.length h rr ≠ 0) := by simpa using h2
      rw [if_neg h2', if_neg h2']
      have e2 := wchk_len h2
      cases h3 : finF z with
      | false => rfl
      | true =>
        simp only [Bool.not_true, Bool.false_eq_true, if_false, if_true, decide_true, cond_false]
        rw [law_seen hN hn e1 hl (by omega), e1]
        have e3 : h.length = n := by omega
        simp only [Bool.false_or, law_S, e3, law_Raw hn, Int.toNat_natCast]
        rw [and_true_of (mkOk_ok (by omega) (by omega) (by omega) (by omega)), and_true_of (fits_ok (by omega) (by omega))]
        have hf : ((dotO h x n || vO xs h n n) || aO (vL xs h n n) rr n n) = fO x xs h rr n := by unfold fO; rw [Bool.or_comm (dotO h x n)]
        rw [hf]
        have e4 := aL_length (vL xs h n n) rr n n
        have e5 := vL_length xs h n n
        have e7 : (fA xs h rr n).length = n + 1 := e4
        have e6 : (uC xs h rr n).2.1.length = n ∧ (uC xs h rr n).2.2.length = n * n := outL_length _ _ _ _ _
        have hA0 : aL (vL xs h n n) rr n n = fA xs h rr n := rfl
        have hy0 : fsub z (dotV h x n) = uY x h z n := rfl
        simp only [hA0, hy0]
        generalize hv : vL xs h n n = v at *
        generalize hA : fA xs h rr n = a at *
        have hu : uC xs h rr n = outL xs v a n n := by unfold uC; rw [hv, hA]
        refine iterG_eq0 (fun i => ((n : Int) - 1 - (i : Int), (fO x xs h rr n || !finF (uY x h z n)) || (outL xs v a n i).1, (outL xs v a n i).2.1, (outL xs v a n i).2.2)) n (by simp [outL]) (by omega) (fun i hi K => ?_) (fun K => ?_)
        · simp only [st_binnacleref16_Update_0, outL]
          generalize (fO x xs h rr n || !finF (uY x h z n)) = o
          have e1 : (n : Int) - 1 - (i : Int) = ((n - 1 - i : Nat) : Int) := by omega
          have e2 : (n : Int) - 1 - ((i + 1 : Nat) : Int) = ((n - 1 - i : Nat) : Int) - 1 := by omega
          have e3 : n - 1 - i < n := by omega
          have e4 := outL_length xs v a n i
          rw [e1, e2]
          generalize n - 1 - i = j at *
          generalize outL xs v a n i = s at *
          obtain ⟨s1, w, L⟩ := s
          simp only at e4 ⊢
          rw [dec_true (by omega), cond_true]
          simp only [law_S, law_Sqrt, Int.toNat_natCast, toNat_succ]
          rw [and_true_of (inR_of (by omega) (by omega)), and_true_of (dec_true (by omega)), and_true_of (fits_ok (by omega) (by omega)), and_true_of (inR_of (by omega) (by omega)), and_true_of (dec_true (by omega)), and_true_of (inR_of (by omega) (by omega)), and_true_of (dec_true (by omega))]
          simp only [outStep]
          refine iterG_eq0 (fun d => ((j : Int) + (d : Int), ((((o || s1) || !finF (colC a j)) || !finF (colPQ a j)) || !finF (colT v a j)) || (inL xs v n j (colC a j) (colT v a j) w L d).1, (inL xs v n j (colC a j) (colT v a j) w L d).2.1, (inL xs v n j (colC a j) (colT v a j) w L d).2.2)) (n - j) (by simp [inL, colC, colPQ, colT]) (by omega) (fun d hd K' => ?_) (fun K' => ?_)
          · have e5 : (j : Int) + (d : Int) = ((j + d : Nat) : Int) := by omega
            have e6 : (j : Int) + ((d + 1 : Nat) : Int) = ((j + d : Nat) : Int) + 1 := by omega
            rw [e5, e6]
            simp only [st_binnacleref16_Update_2, inL]
            have e7 := inL_length xs v n j (colC a j) (colT v a j) w L d
            have e8 : j + d < n := by omega
            generalize hi' : j + d = i' at *
            generalize inL xs v n j (colC a j) (colT v a j) w L d = u at *
            obtain ⟨u1, w', L'⟩ := u
            simp only at e7 ⊢
            rw [dec_true (by omega), cond_true, law_ref08_At hn hl e8 e3]
            simp only [law_S, Int.toNat_natCast, law_Put hn (e7.2.trans e4.2) e8 e3]
            rw [and_true_of (inR_of (by omega) (by omega)), and_true_of (dec_true (by omega)), and_true_of (inR_of (by omega) (by omega)), and_true_of (dec_true (by omega)),
              and_true_of (inR_of (by omega) (by omega)), and_true_of (dec_true (by omega)), and_true_of (inR_of (by omega) (by omega)), and_true_of (dec_true (by omega)), and_true_of (fits_ok (by omega) (by omega))]
            simp only [inStep, colC, colPQ, colT, Bool.or_assoc]
          · simp only [st_binnacleref16_Update_2]
            rw [dec_false (by omega), cond_false, and_true_of (fits_ok (by omega) (by omega))]
            simp only [Bool.or_assoc]
        · simp only [st_binnacleref16_Update_0]
          rw [dec_false (by omega), cond_false, ← hu]
          have hS : ∀ y, uS xs h rr y n = fdiv (fmul y y) (a.getD 0 none) := by intro y; unfold uS; rw [hA]
          simp only [uO, hS, hA]
          generalize fO x xs h rr n = f
          generalize hY : uY x h z n = y at *
          generalize uC xs h rr n = u at *
          refine iterG_eq0 (fun i => ((i : Int), ((f || !finF y) || u.1) || gO x u.2.1 a y i, gL u.2.1 a i, xL x u.2.1 a y i)) n (by simp [gO, gL, xL]) (by omega) (fun i hi K => ?_) (fun K => ?_)
          · simp only [st_binnacleref16_Update_4, law_S, Int.toNat_natCast, getD_gL]
            rw [dec_true (by omega), cond_true, and_true_of (inR_of (by omega) (by omega)), and_true_of (dec_true (by omega)), and_true_of (inR_of (by omega) (by omega)), and_true_of (dec_true (by omega)), and_true_of (dec_true (by simp [gL_length]; omega)),
              and_true_of (inR_of (by omega) (by omega)), and_true_of (inR_of (by omega) (by simp only [List.length_append, gL_length, List.length_singleton]; omega)), and_true_of (dec_true (by simp only [List.length_append, gL_length, List.length_singleton]; omega)), and_true_of (dec_true (by simp [xL_length]; omega)), and_true_of (fits_ok (by omega) (by omega))]
            simp only [gL, xL, gO, Bool.or_assoc]
            rfl
          · simp only [st_binnacleref16_Update_4, law_ended hN hn e6.2]
            rw [dec_false (by omega), cond_false, and_true_of (inR_of (by omega) (by omega)), and_true_of (dec_true (by omega)), and_true_of (inR_of (by omega) (by omega)), and_true_of (dec_true (by omega))]
            have hsw : ∀ p q r s : Bool, (((p || q) || r) || s) = (((p || r) || s) || q) := by decide
            rw [hsw]
            generalize (((((f || !finF y) || u.1) || !finF (fmul y y)) || !finF (fdiv (fmul y y) (a.getD 0 none))) || gO x u.2.1 a y n) = o
            cases o <;> cases abvP u.2.2 n <;> rfl
    · have h2' : wchk x.length h rr ≠ 0 := h2
      rw [if_pos h2', if_pos h2', dec_false h2]; rfl
  · have h1' : rchk x r c xs ≠ 0 := h1
    rw [if_pos h1', if_pos h1', dec_false h1]; rfl

end Go.Proofs.Ytoagmokejfcpbaa
