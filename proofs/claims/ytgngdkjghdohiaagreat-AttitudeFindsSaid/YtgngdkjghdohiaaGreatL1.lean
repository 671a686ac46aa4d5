/-
  PURE: laws of the seat's functions, taken over from another seat of mine.
  Conditions: none.
-/
import Derived.Test.YtgngdkjghdohiaaGreatGp
import Derived.Test.YtgngdkjghdohiaaGreatBig
import Derived.Test.YtgngdkjghdohiaaGreatFlA
section
namespace Go.Proofs.YtgngdkjghdohiaaGreat
open Go Go.Mach Ieee
set_option linter.unusedVariables false

theorem and_tr {a c : Bool} (h : a = true) : (a && c) = c := by rw [h]; rfl
theorem wrap64 (z : Int) : IntKind.wrap .u64 z = z % 18446744073709551616 := by rfl
theorem wrap32 (z : Int) : IntKind.wrap .u32 z = z % 4294967296 := by rfl
theorem fdiv32 (z : Int) : Int.fdiv z (2 ^ 32) = z / 4294967296 := by
  rw [Int.fdiv_eq_ediv_of_nonneg _ (by decide)]; rfl
theorem iterG_from0 {σ : Type} {step : σ -> (σ -> Bool) -> Bool} {s : σ} (C : Nat -> σ) (n : Nat) {N : Nat} (h0 : s = C 0) (hn : n < N) {out : Bool} (hs : ∀ i, i < n -> ∀ K : σ -> Bool, step (C i) K = K (C (i + 1))) (hx : ∀ K, step (C n) K = out) : iterG N step s = out := by
  subst h0; exact iterG_eq C n hn hs hx

def cutLen (b : List Int) : Nat -> Nat
  | 0 => 0
  | n + 1 => if b.getD n 0 = 0 then cutLen b n else n + 1
theorem cutLen_succ (b : List Int) (n : Nat) : cutLen b (n + 1) = if b.getD n 0 = 0 then cutLen b n else n + 1 := rfl
theorem cutLen_le (b : List Int) : ∀ n, cutLen b n <= n
  | 0 => Nat.le_refl _
  | n + 1 => by unfold cutLen; split; exact Nat.le_succ_of_le (cutLen_le b n); exact Nat.le_refl _
theorem getD_zero_of {b : List Int} {i : Nat} (h : b.length <= i) : b.getD i 0 = 0 := by
  rw [List.getD_eq_getElem?_getD, List.getElem?_eq_none h]; rfl
theorem mval_take_all {m : List Int} (i : Nat) : mval (m.take (i + 1)) = mval (m.take i) + 4294967296 ^ i * (m.getD i 0).toNat := by
  by_cases h : i < m.length
  · exact mval_take_succ h
  · rw [getD_zero_of (by omega), List.take_of_length_le (by omega), List.take_of_length_le (by omega)]; simp
theorem cutLen_mval (b : List Int) : ∀ n, mval (b.take (cutLen b n)) = mval (b.take n)
  | 0 => rfl
  | n + 1 => by
    unfold cutLen
    split
    · rename_i h
      rw [cutLen_mval b n, mval_take_all, h]; simp
    · rfl
theorem getLast?_take {b : List Int} {n : Nat} (h : n < b.length) : (b.take (n + 1)).getLast? = some (b.getD n 0) := by
  rw [List.take_succ_eq_append_getElem h, List.getLast?_append, List.getD_eq_getElem?_getD, List.getElem?_eq_getElem h]
  simp
theorem cutLen_last (b : List Int) : ∀ n, n <= b.length -> ∀ x, (b.take (cutLen b n)).getLast? = some x -> x ≠ 0
  | 0, _, x, h => by simp [cutLen] at h
  | n + 1, hn, x, h => by
    unfold cutLen at h
    split at h
    · exact cutLen_last b n (by omega) x h
    · rename_i h0
      rw [getLast?_take (by omega)] at h
      cases h; exact h0
theorem take_cutLen {b : List Int} (hb : InW b) : b.take (cutLen b b.length) = digs (mval b) := by
  have h1 := cutLen_mval b b.length
  rw [List.take_length] at h1
  rw [<- h1, digs_mval (hb.take _) (cutLen_last b b.length (Nat.le_refl _))]
theorem law_cut_w {N : Nat} (b : List Int) (hN : b.length < N) (hs : b.length < 9223372036854775807) (k : Nat -> Nat -> Bool) : sZ7 N b k = k 0 (cutLen b b.length) := by
  unfold sZ7 GZ7
  have key : ∀ n, n <= b.length -> ∀ M, n < M -> iterG M (stZ134 N 0 b fun m => k 0 m) n = k 0 (cutLen b n) := by
    intro n
    induction n with
    | zero =>
      intro _ M hM
      cases M with
      | zero => omega
      | succ M =>
        show stZ134 N 0 b _ 0 _ = _
        simp [stZ134, cutLen]
    | succ n ih =>
      intro hn M hM
      cases M with
      | zero => omega
      | succ M =>
        show stZ134 N 0 b _ (n + 1) (iterG M _) = _
        have e : Int.toNat (((n + 1 : Nat) : Int) - 1) = n := by omega
        simp only [stZ134, e, Nat.zero_add, Nat.sub_zero]
        rw [decide_eq_true (by omega : ((n + 1 : Nat) : Int) > 0), and_tr (fits_ok (by omega) (by omega)), and_tr (inR_of (by omega) (by omega)), and_tr (decide_eq_true (by omega)), and_tr (fits_ok (by omega) (by omega)), and_tr (decide_eq_true (by omega)), ih (by omega) M (by omega)]
        rw [cutLen_succ]
        by_cases h0 : b.getD n 0 = 0
        · have : (b.getD n 0 == 0) = true := by simpa using h0
          rw [this, if_pos h0]; rfl
        · have : (b.getD n 0 == 0) = false := by simpa using h0
          rw [this, if_neg h0]; rfl
  exact key b.length (Nat.le_refl _) N hN
theorem law_cut {N : Nat} (m : List Int) (hm : InW m) (hN : m.length < N) (hs : m.length < 9223372036854775807) (k : List Int -> Bool) : sZ118 N m k = k (digs (mval m)) := by
  unfold sZ118 GZ118
  have key : ∀ n, n < 9223372036854775807 -> ∀ (l : List Int), l.length = n -> InW l -> ∀ M, n < M -> iterG M (st_z00_cut_0 N fun m_2 => k m_2) l = k (digs (mval l)) := by
    intro n
    induction n with
    | zero =>
      intro _ l hl _ M hM
      cases M with
      | zero => omega
      | succ M =>
        have : l = [] := List.length_eq_zero_iff.1 hl
        subst this
        show st_z00_cut_0 N _ [] _ = _
        simp [st_z00_cut_0, mval, digs_zero]
    | succ n ih =>
      intro hn l hl hw M hM
      cases M with
      | zero => omega
      | succ M =>
        show st_z00_cut_0 N _ l (iterG M _) = _
        have e : Int.toNat ((l.length : Int) - 1) = n := by omega
        simp only [st_z00_cut_0, e, List.drop_zero]
        rw [decide_eq_true (by omega : (l.length : Int) > 0), and_tr (fits_ok (by omega) (by omega)), and_tr (inR_of (by omega) (by omega)), and_tr (fits_ok (by omega) (by omega)), and_tr (decide_eq_true (by omega)), ih (by omega) (l.take n) (by simp; omega) (hw.take n) M (by omega)]
        have e2 := mval_take_all (m := l) n
        rw [List.take_of_length_le (by omega)] at e2
        by_cases h0 : l.getD n 0 = 0
        · have : (l.getD n 0 == 0) = true := by simpa using h0
          rw [this]
          rw [h0] at e2
          simp at e2
          rw [e2]; rfl
        · have : (l.getD n 0 == 0) = false := by simpa using h0
          rw [this, digs_mval hw (fun x hx => by
            have := getLast?_take (b := l) (n := n) (by omega)
            rw [List.take_of_length_le (by omega)] at this
            rw [this] at hx; cases hx; exact h0)]
          rfl
  exact key m.length hs m rfl hm N hN
theorem law_cut_take {N : Nat} (b : List Int) (hb : InW b) (hN : b.length < N) (hs : b.length < 9223372036854775807) (k : List Int -> Bool) :
    (sZ7 N b fun m l => (decide (m + l <= b.length)) && k (List.take l (List.drop m b))) = k (digs (mval b)) := by
  rw [law_cut_w b hN hs, List.drop_zero, take_cutLen hb]
  have := cutLen_le b b.length
  rw [decide_eq_true (by omega)]; rfl

def Short (N : Nat) (l : List Int) : Prop := l.length + 2 < N /\ l.length <= 17592186044416
theorem div_pow_add (T A i : Nat) : (T + 4294967296 ^ i * A) / 4294967296 ^ i = T / 4294967296 ^ i + A := Nat.add_mul_div_left _ _ (Nat.pow_pos (by decide))
theorem mval_split (m : List Int) (i : Nat) : mval m = mval (m.take i) + 4294967296 ^ (m.take i).length * mval (m.drop i) := by
  rw [<- mval_append, List.take_append_drop]
theorem mval_split_ge (m : List Int) (i : Nat) : ∃ R, mval m = mval (m.take i) + 4294967296 ^ i * R := by
  by_cases h : i <= m.length
  · refine ⟨mval (m.drop i), ?_⟩
    have := mval_split m i
    rwa [List.length_take, Nat.min_eq_left h] at this
  · exact ⟨0, by rw [List.take_of_length_le (by omega)]; simp⟩
theorem mval_take_lt {m : List Int} (h : InW m) (i : Nat) : mval (m.take i) < 4294967296 ^ i := by
  have h1 := mval_lt (h.take i)
  have h2 : (m.take i).length <= i := by simp; omega
  exact Nat.lt_of_lt_of_le h1 (Nat.pow_le_pow_right (by decide) h2)
theorem digit_of {S T R i : Nat} (h : S = T + 4294967296 ^ (i + 1) * R) : S / 4294967296 ^ i % 4294967296 = T / 4294967296 ^ i % 4294967296 := by
  rw [h, Nat.pow_succ, Nat.mul_assoc, div_pow_add, Nat.add_mul_mod_self_left]
theorem plus_loop {N : Nat} (a b : List Int) (ha : InW a) (hb : InW b) (hl : b.length <= a.length) (hN : Short N a) (k : List Int -> Bool) :
    iterG N (st_z00_plus_0 N (sZ7 N) a b fun carry out => (inR (a.length : Nat) out.length) && ((decide ((Int.toNat (a.length : Nat)) < out.length)) &&
      (sZ7 N (List.set out (Int.toNat (a.length : Nat)) (IntKind.wrap .u32 carry)) fun mr mr_1 => (decide ((mr + mr_1) <= (List.length (List.set out (Int.toNat (a.length : Nat)) (IntKind.wrap .u32 carry))))) && k (List.take mr_1 (List.drop mr (List.set out (Int.toNat (a.length : Nat)) (IntKind.wrap .u32 carry)))))))
      (0, 0, List.replicate (a.length + 1) 0) = k (digs (mval a + mval b)) := by
  obtain ⟨hN1, hN2⟩ := hN
  let S := mval a + mval b
  let T := fun i => mval (a.take i) + mval (b.take i)
  refine iterG_from0 (fun i => (((T i / 4294967296 ^ i : Nat) : Int), (i : Int), dl S i ++ List.replicate (a.length + 1 - i) 0)) a.length (by simp [T, mval, dl]) (by omega) (fun i hi K => ?_) (fun K => ?_)
  · have hx := ha.at (i := i)
    have hy := hb.at (i := i)
    have hT : T (i + 1) = T i + 4294967296 ^ i * ((a.getD i 0).toNat + (b.getD i 0).toNat) := by
      simp only [T, mval_take_all, Nat.mul_add]; omega
    have hq : T (i + 1) / 4294967296 ^ i = T i / 4294967296 ^ i + ((a.getD i 0).toNat + (b.getD i 0).toNat) := by rw [hT, div_pow_add]
    have hc : T i / 4294967296 ^ i <= 1 := by
      have h1 := mval_take_lt ha i
      have h2 := mval_take_lt hb i
      have h3 : T i < 4294967296 ^ i * 2 := by simp only [T]; omega
      have := (Nat.div_lt_iff_lt_mul (Nat.pow_pos (n := i) (by decide : 0 < 4294967296))).2 (by rw [Nat.mul_comm]; exact h3 : T i < 2 * 4294967296 ^ i)
      omega
    have hdiv : T (i + 1) / 4294967296 ^ (i + 1) = T (i + 1) / 4294967296 ^ i / 4294967296 := by rw [Nat.pow_succ, Nat.div_div_eq_div_mul]
    have hdig : S / 4294967296 ^ i % 4294967296 = T (i + 1) / 4294967296 ^ i % 4294967296 := by
      obtain ⟨R1, h1⟩ := mval_split_ge a (i + 1)
      obtain ⟨R2, h2⟩ := mval_split_ge b (i + 1)
      refine digit_of (R := R1 + R2) ?_
      simp only [S, T]
      rw [Nat.mul_add]; omega
    have hset := dl_set S i (a.length + 1) (by omega)
    have hlen : (dl S i ++ List.replicate (a.length + 1 - i) 0).length = a.length + 1 := by simp [dl_length]; omega
    generalize hq' : T i / 4294967296 ^ i = q at *
    generalize hx' : a.getD i 0 = x at *
    generalize hy' : b.getD i 0 = y at *
    simp only [st_z00_plus_0, Int.toNat_natCast]
    rw [decide_eq_true (by omega : (i : Int) < a.length), cond_true, hx', hy', and_tr (inR_of (by omega) (by omega)), hlen]
    have hstep : ∀ s : Int, s = ((q + (x.toNat + y.toNat) : Nat) : Int) -> K ((Int.fdiv s (2 ^ 32)), ((i : Int) + 1), (List.set (dl S i ++ List.replicate (a.length + 1 - i) 0) i (IntKind.wrap .u32 s))) = K (((T (i + 1) / 4294967296 ^ (i + 1) : Nat) : Int), ((i + 1 : Nat) : Int), dl S (i + 1) ++ List.replicate (a.length + 1 - (i + 1)) 0) := by
      intro s hs
      have e1 : Int.fdiv s (2 ^ 32) = ((T (i + 1) / 4294967296 ^ (i + 1) : Nat) : Int) := by rw [fdiv32, hdiv, hq, hs]; omega
      have e2 : IntKind.wrap .u32 s = ((S / 4294967296 ^ i % 4294967296 : Nat) : Int) := by rw [wrap32, hdig, hq, hs]; omega
      rw [e1, e2, hset]; rfl
    by_cases hib : i < b.length
    · rw [decide_eq_true (by omega : (i : Int) < b.length), cond_true, and_tr (inR_of (by omega) (by omega)), and_tr (inR_of (by omega) (by omega)), and_tr (decide_eq_true (by omega)), and_tr (fits_ok (by omega) (by omega))]
      exact hstep _ (by simp only [wrap64]; omega)
    · rw [decide_eq_false (by omega : ¬ (i : Int) < b.length), cond_false, and_tr (inR_of (by omega) (by omega)), and_tr (decide_eq_true (by omega)), and_tr (fits_ok (by omega) (by omega))]
      have hy0 : y = 0 := by rw [<- hy']; exact getD_zero_of (by omega)
      subst hy0
      exact hstep _ (by simp only [wrap64]; omega)
  · simp only [st_z00_plus_0]
    rw [decide_eq_false (by omega : ¬ (a.length : Int) < a.length), cond_false]
    have hT : T a.length = S := by simp only [T, S]; rw [List.take_length, List.take_of_length_le hl]
    have hS : S < 4294967296 ^ (a.length + 1) := by
      have h1 := mval_lt ha
      have h2 := mval_lt hb
      have h3 : 4294967296 ^ b.length <= 4294967296 ^ a.length := Nat.pow_le_pow_right (by decide) hl
      rw [Nat.pow_succ]
      simp only [S]; omega
    have hlen : (dl S a.length ++ List.replicate (a.length + 1 - a.length) 0).length = a.length + 1 := by simp [dl_length]
    have e2 : IntKind.wrap .u32 ((T a.length / 4294967296 ^ a.length : Nat) : Int) = ((S / 4294967296 ^ a.length % 4294967296 : Nat) : Int) := by rw [wrap32, hT]; omega
    have hset := dl_set S a.length (a.length + 1) (by omega)
    rw [e2, Int.toNat_natCast, hset, hlen, and_tr (inR_of (by omega) (by omega)), and_tr (decide_eq_true (by omega)), Nat.sub_self, List.replicate_zero, List.append_nil,
      law_cut_take _ (dl_inW S _) (by rw [dl_length]; omega) (by rw [dl_length]; omega), digs_dl hS]
theorem law_plus {N : Nat} (a b : List Int) (ha : InW a) (hb : InW b) (hNa : Short N a) (hNb : Short N b) (k : List Int -> Bool) : sZ106 N a b k = k (digs (mval a + mval b)) := by
  unfold sZ106 GZ106
  have h1 := hNa.2
  have h2 := hNb.2
  by_cases h : a.length < b.length
  · rw [decide_eq_true (by omega : (a.length : Int) < b.length), cond_true, and_tr (fits_ok (by omega) (by omega)), and_tr (mkOk_ok (by omega) (by omega) (by omega) (by omega))]
    have e : Int.toNat ((b.length : Int) + 1) = b.length + 1 := by omega
    rw [e, plus_loop b a hb ha (by omega) hNb k, Nat.add_comm]
  · rw [decide_eq_false (by omega : ¬ (a.length : Int) < b.length), cond_false, and_tr (fits_ok (by omega) (by omega)), and_tr (mkOk_ok (by omega) (by omega) (by omega) (by omega))]
    have e : Int.toNat ((a.length : Int) + 1) = a.length + 1 := by omega
    rw [e, plus_loop a b ha hb (by omega) hNa k]


theorem pow_pos32 (i : Nat) : 0 < 4294967296 ^ i := Nat.pow_pos (by decide)
theorem int_div_of {D e P : Nat} {z : Int} (h : (D : Int) = (e : Int) + (P : Int) * z) (he : e < P) : ((D / P : Nat) : Int) = z := by
  have hP : (P : Int) ≠ 0 := by omega
  rw [Int.natCast_ediv, h, Int.add_mul_ediv_left _ _ hP, <- Int.natCast_ediv, Nat.div_eq_of_lt he]
  simp
theorem borrow_step (P A B x y : Nat) (hA : A < P) (hB : B < P) : (if A + P * x < B + P * y then 1 else 0) = if x < y + (if A < B then 1 else 0) then 1 else (0 : Nat) := by
  by_cases hxy : x < y
  · have : P * (x + 1) <= P * y := Nat.mul_le_mul_left P hxy
    rw [Nat.mul_add] at this
    rw [if_pos (by omega), if_pos (by omega)]
  · by_cases hyx : y < x
    · have : P * (y + 1) <= P * x := Nat.mul_le_mul_left P hyx
      rw [Nat.mul_add] at this
      rw [if_neg (by omega), if_neg (by split <;> omega)]
    · have : x = y := by omega
      subst this
      by_cases hAB : A < B
      · rw [if_pos (by omega), if_pos hAB, if_pos (by omega)]
      · rw [if_neg (by omega), if_neg hAB, if_neg (by omega)]
theorem diff_div {P A B x y o R1 R2 D a b : Nat} (hA : A < P) (hB : B < P) (ho : o = if A < B then 1 else 0) (h1 : a = A + P * x + P * 4294967296 * R1) (h2 : b = B + P * y + P * 4294967296 * R2) (hD : (D : Int) = (a : Int) - (b : Int)) :
    ((D / P : Nat) : Int) = (x : Int) - (y : Int) - (o : Int) + 4294967296 * ((R1 : Int) - (R2 : Int)) := by
  have he : ∃ e : Nat, e < P /\ (e : Int) = (A : Int) - (B : Int) + (P : Int) * (o : Int) := by
    rw [ho]
    split
    · exact ⟨A + P - B, by omega, by omega⟩
    · exact ⟨A - B, by omega, by omega⟩
  obtain ⟨e, he1, he2⟩ := he
  refine int_div_of (e := e) ?_ he1
  have e1 : (a : Int) = A + (P : Int) * x + 4294967296 * ((P : Int) * R1) := by
    rw [h1, Nat.mul_assoc, Nat.mul_left_comm]; simp
  have e2 : (b : Int) = B + (P : Int) * y + 4294967296 * ((P : Int) * R2) := by
    rw [h2, Nat.mul_assoc, Nat.mul_left_comm]; simp
  have e3 : (P : Int) * ((x : Int) - (y : Int) - (o : Int) + 4294967296 * ((R1 : Int) - (R2 : Int))) = (P : Int) * x - (P : Int) * y - (P : Int) * o + (4294967296 * ((P : Int) * R1) - 4294967296 * ((P : Int) * R2)) := by
    rw [Int.mul_add, Int.mul_sub, Int.mul_sub, Int.mul_left_comm, Int.mul_sub, Int.mul_sub]
  rw [hD, e1, e2, e3, he2]
  omega
theorem law_minus {N : Nat} (a b : List Int) (ha : InW a) (hb : InW b) (hle : mval b <= mval a) (hN : Short N a) (k : List Int -> Bool) : sZ89 N a b k = k (digs (mval a - mval b)) := by
  obtain ⟨hN1, hN2⟩ := hN
  unfold sZ89 GZ89
  rw [and_tr (mkOk_ok (by omega) (by omega) (by omega) (by omega)), Int.toNat_natCast]
  let D := mval a - mval b
  let bo := fun i => if mval (a.take i) < mval (b.take i) then (1 : Nat) else 0
  refine iterG_from0 (fun i => (((bo i : Nat) : Int), (i : Int), dl D i ++ List.replicate (a.length - i) 0)) a.length (by simp [bo, mval, dl]) (by omega) (fun i hi K => ?_) (fun K => ?_)
  · have hx := ha.at (i := i)
    have hy := hb.at (i := i)
    have hA := mval_take_all (m := a) i
    have hB := mval_take_all (m := b) i
    have hAl := mval_take_lt ha i
    have hBl := mval_take_lt hb i
    have hset := dl_set D i a.length (by omega)
    have hl : (dl D i ++ List.replicate (a.length - i) 0).length = a.length := by simp [dl_length]; omega
    obtain ⟨R1, h1⟩ := mval_split_ge a (i + 1)
    obtain ⟨R2, h2⟩ := mval_split_ge b (i + 1)
    have hD : (D : Int) = (mval a : Int) - (mval b : Int) := by simp only [D]; omega
    have hP := pow_pos32 i
    have hPs : 4294967296 ^ (i + 1) = 4294967296 ^ i * 4294967296 := Nat.pow_succ ..
    have hbo : bo i <= 1 := by simp only [bo]; split <;> omega
    have hbs : bo (i + 1) = if (a.getD i 0).toNat < (b.getD i 0).toNat + bo i then 1 else 0 := by
      simp only [bo, hA, hB]
      exact borrow_step _ _ _ _ _ hAl hBl
    have hq : ((D / 4294967296 ^ i : Nat) : Int) = ((a.getD i 0).toNat : Int) - ((b.getD i 0).toNat : Int) - (bo i : Int) + 4294967296 * ((R1 : Int) - (R2 : Int)) := by
      rw [hA, hPs] at h1
      rw [hB, hPs] at h2
      exact diff_div hAl hBl rfl h1 h2 hD
    have hdig : ((D / 4294967296 ^ i % 4294967296 : Nat) : Int) = (((a.getD i 0).toNat : Int) - ((b.getD i 0).toNat : Int) - (bo i : Int)) % 4294967296 := by
      rw [Int.natCast_emod, hq]
      exact Int.add_mul_emod_self_left _ _ _
    generalize hx' : a.getD i 0 = x at *
    generalize hy' : b.getD i 0 = y at *
    generalize bo i = o at *
    generalize bo (i + 1) = o' at *
    simp only [st_z00_minus_0, Int.toNat_natCast]
    have hy0 : ¬ i < b.length -> y = 0 := fun h => by rw [<- hy']; exact getD_zero_of (by omega)
    have fin : ∀ (v w : Int), v = (o' : Int) -> w % 4294967296 = ((D / 4294967296 ^ i % 4294967296 : Nat) : Int) -> K (v, (i : Int) + 1, List.set (dl D i ++ List.replicate (a.length - i) 0) i (IntKind.wrap .u32 w)) = K ((o' : Int), ((i + 1 : Nat) : Int), dl D (i + 1) ++ List.replicate (a.length - (i + 1)) 0) := by
      intro v w hv hw
      rw [hv, wrap32, hw, hset]; rfl
    simp only [hx', hy', hl]
    rw [decide_eq_true (by omega : (i : Int) < a.length), cond_true]
    by_cases hib : i < b.length
    · rw [decide_eq_true (by omega : (i : Int) < b.length), cond_true, and_tr (inR_of (by omega) (by omega)), and_tr (inR_of (by omega) (by omega))]
      by_cases hlt : x.toNat < y.toNat + o
      · rw [decide_eq_true (by simp only [wrap64]; omega), cond_true, and_tr (inR_of (by omega) (by omega)), and_tr (decide_eq_true (by omega)), and_tr (fits_ok (by omega) (by omega))]
        rw [if_pos hlt] at hbs
        exact fin _ _ (by omega) (by rw [hdig]; simp only [wrap64]; omega)
      · rw [decide_eq_false (by simp only [wrap64]; omega), cond_false, and_tr (inR_of (by omega) (by omega)), and_tr (decide_eq_true (by omega)), and_tr (fits_ok (by omega) (by omega))]
        rw [if_neg hlt] at hbs
        exact fin _ _ (by omega) (by rw [hdig]; simp only [wrap64]; omega)
    · have hy1 := hy0 hib
      rw [decide_eq_false (by omega : ¬ (i : Int) < b.length), cond_false, and_tr (inR_of (by omega) (by omega))]
      by_cases hlt : x.toNat < y.toNat + o
      · rw [decide_eq_true (by simp only [wrap64]; omega), cond_true, and_tr (inR_of (by omega) (by omega)), and_tr (decide_eq_true (by omega)), and_tr (fits_ok (by omega) (by omega))]
        rw [if_pos hlt] at hbs
        exact fin _ _ (by omega) (by rw [hdig]; simp only [wrap64]; omega)
      · rw [decide_eq_false (by simp only [wrap64]; omega), cond_false, and_tr (inR_of (by omega) (by omega)), and_tr (decide_eq_true (by omega)), and_tr (fits_ok (by omega) (by omega))]
        rw [if_neg hlt] at hbs
        exact fin _ _ (by omega) (by rw [hdig]; simp only [wrap64]; omega)
  · simp only [st_z00_minus_0]
    rw [decide_eq_false (by omega : ¬ (a.length : Int) < a.length), cond_false, Nat.sub_self, List.replicate_zero, List.append_nil]
    have hS : D < 4294967296 ^ a.length := by have := mval_lt ha; simp only [D]; omega
    rw [law_cut_take _ (dl_inW D _) (by rw [dl_length]; omega) (by rw [dl_length]; omega), digs_dl hS]


theorem bitsN_or_disj64 (a c s : Nat) (ha : a < 2 ^ s) (hlt : 2 ^ s * c + a < 18446744073709551616) : bitsN .or .u64 (a : Int) ((2 ^ s * c : Nat) : Int) = ((2 ^ s * c + a : Nat) : Int) := by
  unfold bitsN bitsI
  simp only [Option.getD_some]
  have e : ((BitVec.ofInt (IntKind.bits .u64) (a : Int)) ||| (BitVec.ofInt (IntKind.bits .u64) ((2 ^ s * c : Nat) : Int))).toNat = 2 ^ s * c + a := by
    show ((BitVec.ofInt 64 (a : Int)) ||| (BitVec.ofInt 64 ((2 ^ s * c : Nat) : Int))).toNat = _
    have h64 : (2 : Nat) ^ 64 = 18446744073709551616 := by decide
    rw [BitVec.toNat_or, BitVec.ofInt_natCast, BitVec.ofInt_natCast, BitVec.toNat_ofNat, BitVec.toNat_ofNat, Nat.mod_eq_of_lt (by omega), Nat.mod_eq_of_lt (by omega), Nat.or_comm, <- Nat.two_pow_add_eq_or_of_lt ha]
  rw [e, wrap_u64 _ hlt]
theorem wrap_u32 (n : Nat) (h : n < 4294967296) : IntKind.wrap .u32 (n : Int) = n := by rw [wrap32]; omega
theorem bitsN_or_disj32 (a c s : Nat) (ha : a < 2 ^ s) (hlt : 2 ^ s * c + a < 4294967296) : bitsN .or .u32 (a : Int) ((2 ^ s * c : Nat) : Int) = ((2 ^ s * c + a : Nat) : Int) := by
  unfold bitsN bitsI
  simp only [Option.getD_some]
  have e : ((BitVec.ofInt (IntKind.bits .u32) (a : Int)) ||| (BitVec.ofInt (IntKind.bits .u32) ((2 ^ s * c : Nat) : Int))).toNat = 2 ^ s * c + a := by
    show ((BitVec.ofInt 32 (a : Int)) ||| (BitVec.ofInt 32 ((2 ^ s * c : Nat) : Int))).toNat = _
    have h32 : (2 : Nat) ^ 32 = 4294967296 := by decide
    rw [BitVec.toNat_or, BitVec.ofInt_natCast, BitVec.ofInt_natCast, BitVec.toNat_ofNat, BitVec.toNat_ofNat, Nat.mod_eq_of_lt (by omega), Nat.mod_eq_of_lt (by omega), Nat.or_comm, <- Nat.two_pow_add_eq_or_of_lt ha]
  rw [e, wrap_u32 _ hlt]

def cmpN (x y : Nat) : Int := if x < y then -1 else if x = y then 0 else 1
theorem cmp_lt {P A B x y : Nat} (hA : A < P) (h : x < y) : cmpN (A + P * x) (B + P * y) = -1 := by
  have : P * (x + 1) <= P * y := Nat.mul_le_mul_left P h
  rw [Nat.mul_add] at this
  unfold cmpN
  rw [if_pos (by omega)]
theorem cmp_gt {P A B x y : Nat} (hB : B < P) (h : y < x) : cmpN (A + P * x) (B + P * y) = 1 := by
  have : P * (y + 1) <= P * x := Nat.mul_le_mul_left P h
  rw [Nat.mul_add] at this
  unfold cmpN
  rw [if_neg (by omega), if_neg (by omega)]
theorem cmp_same {P A B x : Nat} : cmpN (A + P * x) (B + P * x) = cmpN A B := by
  unfold cmpN
  by_cases h3 : A < B
  · rw [if_pos h3, if_pos (by omega)]
  · by_cases h4 : A = B
    · subst h4; simp
    · rw [if_neg h3, if_neg h4, if_neg (by omega), if_neg (by omega)]
theorem compare_loop {N : Nat} (a b : List Int) (ha : InW a) (hb : InW b) (hl : a.length = b.length) (hs : a.length < 9223372036854775807) (k : Int -> Bool) :
    ∀ n, n <= a.length -> ∀ M, n < M -> iterG M (stZ132 N a b (fun t4 => k t4) (k 0)) ((n : Int) - 1) = k (cmpN (mval (a.take n)) (mval (b.take n))) := by
  intro n
  induction n with
  | zero =>
    intro _ M hM
    cases M with
    | zero => omega
    | succ M =>
      show stZ132 N a b _ _ ((0 : Nat) - 1 : Int) _ = _
      simp [stZ132, cmpN, mval]
  | succ n ih =>
    intro hn M hM
    cases M with
    | zero => omega
    | succ M =>
      show stZ132 N a b _ _ (((n + 1 : Nat) : Int) - 1) (iterG M _) = _
      have e : (((n + 1 : Nat) : Int) - 1) = (n : Int) := by omega
      have hx := ha.at (i := n)
      have hy := hb.at (i := n)
      have hA := mval_take_all (m := a) n
      have hB := mval_take_all (m := b) n
      have hAl := mval_take_lt ha n
      have hBl := mval_take_lt hb n
      rw [e]
      simp only [stZ132, Int.toNat_natCast]
      rw [hA, hB, decide_eq_true (by omega : (n : Int) >= 0), cond_true, and_tr (inR_of (by omega) (by omega)), and_tr (inR_of (by omega) (by omega)), and_tr (inR_of (by omega) (by omega)), and_tr (inR_of (by omega) (by omega)), and_tr (fits_ok (by omega) (by omega)), ih (by omega) M (by omega)]
      by_cases h1 : a.getD n 0 < b.getD n 0
      · rw [decide_eq_true h1, cond_true, cmp_lt hAl (by omega)]
      · rw [decide_eq_false h1, cond_false]
        by_cases h2 : a.getD n 0 > b.getD n 0
        · rw [decide_eq_true h2, cond_true, cmp_gt hBl (by omega)]
        · rw [decide_eq_false h2, cond_false]
          have : a.getD n 0 = b.getD n 0 := by omega
          rw [this, cmp_same]
theorem digs_length_le {x y : Nat} (h : x <= y) : (digs x).length <= (digs y).length := by
  induction y using Nat.strongRecOn generalizing x with
  | ind y ih =>
    by_cases hx : x = 0
    · subst hx; rw [digs_zero]; simp
    · rw [digs_pos hx, digs_pos (by omega : y ≠ 0)]
      simp only [List.length_cons]
      have := ih (y / 4294967296) (by omega) (x := x / 4294967296) (Nat.div_le_div_right h)
      omega
theorem law_compare {N : Nat} (x y : Nat) (hx : Short N (digs x)) (hy : Short N (digs y)) (k : Int -> Bool) : sZ70 N (digs x) (digs y) k = k (cmpN x y) := by
  unfold sZ70 GZ70
  obtain ⟨x1, x2⟩ := hx
  obtain ⟨y1, y2⟩ := hy
  by_cases h : (digs x).length = (digs y).length
  · have e : (((digs x).length : Int) != (digs y).length) = false := by rw [h]; simp
    rw [e, cond_false, and_tr (fits_ok (by omega) (by omega)), compare_loop (digs x) (digs y) (digs_inW x) (digs_inW y) h (by omega) k _ (Nat.le_refl _) N (by omega), List.take_length, h, List.take_length, mval_digs, mval_digs]
  · have e : (((digs x).length : Int) != (digs y).length) = true := by simp; omega
    rw [e, cond_true]
    by_cases h1 : (digs x).length < (digs y).length
    · rw [decide_eq_true (by omega), cond_true]
      have : x < y := by
        rcases Nat.lt_or_ge x y with h2 | h2
        · exact h2
        · have := digs_length_le h2; omega
      unfold cmpN; rw [if_pos this]
    · rw [decide_eq_false (by omega), cond_false]
      have : ¬ x <= y := fun h2 => by have := digs_length_le h2; omega
      unfold cmpN; rw [if_neg (by omega), if_neg (by omega)]

def bl (n : Nat) : Nat := if n = 0 then 0 else n.log2 + 1
theorem bl_shift {n : Nat} (j : Nat) (h : 2 ^ j <= n) : bl n = j + bl (n / 2 ^ j) := by
  have hp : 0 < 2 ^ j := Nat.two_pow_pos j
  have h0 : n ≠ 0 := by omega
  have h1 : n / 2 ^ j ≠ 0 := by
    have := Nat.div_pos h hp
    omega
  unfold bl
  rw [if_neg h0, if_neg h1]
  have hj : j <= n.log2 := (Nat.le_log2 h0).2 h
  have : (n / 2 ^ j).log2 = n.log2 - j := by
    rw [Nat.log2_eq_iff h1]
    have h2 := Nat.log2_self_le h0
    have h3 : n < 2 ^ (n.log2 + 1) := Nat.lt_log2_self
    constructor
    · rw [Nat.le_div_iff_mul_le hp, <- Nat.pow_add]
      rw [show n.log2 - j + j = n.log2 by omega]; exact h2
    · rw [Nat.div_lt_iff_lt_mul hp, <- Nat.pow_add]
      rw [show n.log2 - j + 1 + j = n.log2 + 1 by omega]; exact h3
  omega
theorem digs_length_bl : ∀ n, n ≠ 0 -> bl n = 32 * ((digs n).length - 1) + bl ((digs n).getD ((digs n).length - 1) 0).toNat /\ 0 < (digs n).length := by
  intro n
  induction n using Nat.strongRecOn with
  | ind n ih =>
    intro h
    rw [digs_pos h]
    by_cases h1 : n / 4294967296 = 0
    · rw [h1, digs_zero]
      have : n % 4294967296 = n := Nat.mod_eq_of_lt (by omega)
      simp [this]
    · obtain ⟨i1, i2⟩ := ih (n / 4294967296) (by omega) h1
      have e := bl_shift (n := n) 32 (by have : (2 : Nat) ^ 32 = 4294967296 := by decide
                                         omega)
      rw [show (2 : Nat) ^ 32 = 4294967296 by decide] at e
      refine ⟨?_, by simp⟩
      have e2 : (((n % 4294967296 : Nat) : Int) :: digs (n / 4294967296)).getD ((((n % 4294967296 : Nat) : Int) :: digs (n / 4294967296)).length - 1) 0 = (digs (n / 4294967296)).getD ((digs (n / 4294967296)).length - 1) 0 := by
        simp only [List.length_cons, Nat.add_sub_cancel]
        generalize digs (n / 4294967296) = l at i2 ⊢
        cases l with
        | nil => simp at i2
        | cons y l => simp
      rw [e2, e, i1]
      simp only [List.length_cons]
      omega
theorem dl_of_zero : ∀ (w X : Nat), dl (4294967296 ^ w * X) w = List.replicate w 0 := by
  intro w
  have key : ∀ n, n <= w -> ∀ X, dl (4294967296 ^ w * X) n = List.replicate n 0 := by
    intro n
    induction n with
    | zero => intro _ X; rfl
    | succ n ih =>
      intro hn X
      rw [dl, ih (by omega), List.replicate_succ']
      have e : 4294967296 ^ w * X = 4294967296 ^ n * (4294967296 * (4294967296 ^ (w - n - 1) * X)) := by
        rw [<- Nat.mul_assoc, <- Nat.mul_assoc, <- Nat.pow_succ, <- Nat.pow_add]
        congr 2; omega
      rw [e, Nat.mul_div_cancel_left _ (pow_pos32 n), Nat.mul_mod_right]
      rfl
  exact key w (Nat.le_refl _)
theorem pow2_32 (n : Nat) : 2 ^ n = 4294967296 ^ (n / 32) * 2 ^ (n % 32) := by
  have : (4294967296 : Nat) = 2 ^ 32 := by decide
  rw [this, <- Nat.pow_mul, <- Nat.pow_add]
  congr 1; omega
theorem set_append_at {α : Type} (xs : List α) (y : α) (ys : List α) (z : α) (n : Nat) (h : n = xs.length) : (xs ++ y :: ys).set n z = xs ++ z :: ys := by
  subst h; rw [List.set_append_right _ _ (Nat.le_refl _), Nat.sub_self]; rfl
theorem getD_append_at {xs : List Int} {y : Int} {ys : List Int} {n : Nat} (h : n = xs.length) : (xs ++ y :: ys).getD n 0 = y := by
  subst h; rw [List.getD_eq_getElem?_getD, List.getElem?_append_right (Nat.le_refl _), Nat.sub_self]; rfl

theorem law_left {N : Nat} (m : List Int) (hm : InW m) (n : Nat) (hn : n < 4294967296) (hN : m.length + n / 32 + 4 < N) (hs : m.length <= 1099511627776) (k : List Int -> Bool) : sZ105 N m n k = k (digs (mval m * 2 ^ n)) := by
  unfold sZ105 GZ105
  by_cases h0 : m.length = 0
  · have : m = [] := List.length_eq_zero_iff.1 h0
    subst this
    simp [mval, digs_zero]
  · have e0 : ((m.length : Int) == 0) = false := by simp; intro h; subst h; simp at h0
    have ew : IntKind.wrap .u64 (Int.tdiv (n : Int) 32) = ((n / 32 : Nat) : Int) := by
      rw [wrap64, Int.tdiv_eq_ediv_of_nonneg (by omega)]; omega
    have es : Int.tmod (n : Int) 32 = ((n % 32 : Nat) : Int) := by rw [Int.tmod_eq_emod_of_nonneg (by omega)]; rfl
    rw [e0, cond_false, ew, es]
    generalize hw : n / 32 = w at *
    generalize hsh : n % 32 = s at *
    have hs32 : s < 32 := by omega
    have hp2 : 2 ^ n = 4294967296 ^ w * 2 ^ s := by rw [pow2_32, hw, hsh]
    have hs0 : 0 < 2 ^ s := Nat.two_pow_pos s
    have hs1 : 2 ^ s * 2 ^ (32 - s) = 4294967296 := by rw [<- Nat.pow_add, show s + (32 - s) = 32 by omega]
    have hs2 : 2 ^ s <= 2147483648 := by
      have : 2 ^ s <= 2 ^ 31 := Nat.pow_le_pow_right (by decide) (by omega)
      simpa using this
    have elen : Int.toNat (((w : Nat) : Int) + (m.length : Int) + 1) = w + m.length + 1 := by omega
    rw [and_tr (fits_ok (by omega) (by omega)), and_tr (fits_ok (by omega) (by omega)), and_tr (fits_ok (by omega) (by omega)), and_tr (mkOk_ok (by omega) (by omega) (by omega) (by omega)), elen]
    let V := mval m * 2 ^ n
    let X := mval m * 2 ^ s
    have hVX : V = 4294967296 ^ w * X := by simp only [V, X]; rw [hp2, Nat.mul_left_comm]
    let T := fun i => mval (m.take i) * 2 ^ s
    let c := fun i => T i / 4294967296 ^ i
    refine iterG_from0 (fun i => ((i : Int), dl V (w + i) ++ ((c i : Nat) : Int) :: List.replicate (m.length - i) 0)) m.length ?_ (by omega) (fun i hi K => ?_) (fun K => ?_)
    · congr 1
      show List.replicate (w + m.length + 1) (0 : Int) = dl V w ++ ((c 0 : Nat) : Int) :: List.replicate m.length 0
      rw [hVX, dl_of_zero]
      have hc0 : c 0 = 0 := by simp [c, T, mval]
      rw [hc0]
      have : w + m.length + 1 = w + (m.length + 1) := by omega
      rw [this, <- List.replicate_append_replicate, List.replicate_succ]; rfl
    · have hx := hm.at (i := i)
      have hT : T (i + 1) = T i + 4294967296 ^ i * ((m.getD i 0).toNat * 2 ^ s) := by
        simp only [T, mval_take_all, Nat.add_mul, Nat.mul_assoc]
      have hq : T (i + 1) / 4294967296 ^ i = c i + (m.getD i 0).toNat * 2 ^ s := by rw [hT, div_pow_add]
      have hci : c i < 2 ^ s := by
        simp only [c, T]
        rw [Nat.div_lt_iff_lt_mul (pow_pos32 i), Nat.mul_comm]
        exact Nat.mul_lt_mul_of_pos_left (mval_take_lt hm i) hs0
      have hc1 : c (i + 1) = (c i + (m.getD i 0).toNat * 2 ^ s) / 4294967296 := by
        rw [<- hq]; simp only [c]; rw [Nat.pow_succ, Nat.div_div_eq_div_mul]
      have hdig : V / 4294967296 ^ (w + i) % 4294967296 = (c i + (m.getD i 0).toNat * 2 ^ s) % 4294967296 := by
        rw [<- hq, hVX, Nat.pow_add, <- Nat.div_div_eq_div_mul, Nat.mul_div_cancel_left _ (pow_pos32 w)]
        obtain ⟨R, hR⟩ := mval_split_ge m (i + 1)
        refine digit_of (R := R * 2 ^ s) ?_
        simp only [X, T]
        rw [hR, Nat.add_mul, Nat.mul_assoc]
      have hrep : List.replicate (m.length - i) (0 : Int) = 0 :: List.replicate (m.length - (i + 1)) 0 := by
        rw [show m.length - i = (m.length - (i + 1)) + 1 by omega, List.replicate_succ]
      have hdl := dl_length V (w + i)
      have ei : Int.toNat ((w : Int) + (i : Int)) = w + i := by omega
      have ei1 : Int.toNat ((w : Int) + (i : Int) + 1) = w + i + 1 := by omega
      have emin : min s 64 = s := by omega
      simp only [st_z00_left_0, Int.toNat_natCast, ei, ei1, emin]
      rw [hrep, getD_append_at hdl.symm, set_append_at _ _ _ _ _ hdl.symm]
      have et : IntKind.wrap .u64 (IntKind.wrap .u64 (m.getD i 0) * 2 ^ s) = (((m.getD i 0).toNat * 2 ^ s : Nat) : Int) := by
        have hxs : (m.getD i 0).toNat * 2 ^ s < 4294967296 * 2147483648 := Nat.mul_lt_mul_of_lt_of_le (by omega) hs2 (by decide)
        have e1 : IntKind.wrap .u64 (m.getD i 0) = (((m.getD i 0).toNat : Nat) : Int) := by rw [wrap64]; omega
        have e2 : (((m.getD i 0).toNat : Nat) : Int) * 2 ^ s = (((m.getD i 0).toNat * 2 ^ s : Nat) : Int) := by simp
        rw [e1, e2, wrap64]; omega
      rw [et]
      generalize hxx : (m.getD i 0).toNat = x at *
      have hx32 : x < 4294967296 := by omega
      have hlow : x * 2 ^ s % 4294967296 = 2 ^ s * (x % 2 ^ (32 - s)) := by
        have e : x * 2 ^ s % (2 ^ s * 2 ^ (32 - s)) = 2 ^ s * (x % 2 ^ (32 - s)) := by rw [Nat.mul_comm x]; exact Nat.mul_mod_mul_left _ _ _
        rwa [hs1] at e
      have hsum : 2 ^ s * (x % 2 ^ (32 - s)) + c i < 4294967296 := by
        have h1 : x % 2 ^ (32 - s) + 1 <= 2 ^ (32 - s) := Nat.mod_lt _ (Nat.two_pow_pos _)
        have h2 := Nat.mul_le_mul_left (2 ^ s) h1
        rw [hs1, Nat.mul_add] at h2
        omega
      have eor : bitsN .or .u32 ((c i : Nat) : Int) (IntKind.wrap .u32 ((x * 2 ^ s : Nat) : Int)) = ((V / 4294967296 ^ (w + i) % 4294967296 : Nat) : Int) := by
        have e1 : IntKind.wrap .u32 ((x * 2 ^ s : Nat) : Int) = ((2 ^ s * (x % 2 ^ (32 - s)) : Nat) : Int) := by rw [<- hlow, wrap32]; omega
        rw [e1, bitsN_or_disj32 _ _ s hci hsum, hdig]
        omega
      have ehi : IntKind.wrap .u32 (Int.fdiv ((x * 2 ^ s : Nat) : Int) (2 ^ 32)) = ((c (i + 1) : Nat) : Int) := by
        have hxs : x * 2 ^ s < 4294967296 * 2147483648 := Nat.mul_lt_mul_of_lt_of_le hx32 hs2 (by decide)
        rw [fdiv32, wrap32, hc1]
        omega
      rw [eor, ehi]
      have hl1 : ∀ (a b : Int) (ys : List Int), (dl V (w + i) ++ a :: b :: ys).length = w + i + 2 + ys.length := by intro a b ys; simp [hdl]; omega
      have hset2 : (dl V (w + i) ++ ((V / 4294967296 ^ (w + i) % 4294967296 : Nat) : Int) :: 0 :: List.replicate (m.length - (i + 1)) 0).set (w + i + 1) ((c (i + 1) : Nat) : Int) = dl V (w + (i + 1)) ++ ((c (i + 1) : Nat) : Int) :: List.replicate (m.length - (i + 1)) 0 := by
        have : dl V (w + i) ++ ((V / 4294967296 ^ (w + i) % 4294967296 : Nat) : Int) :: 0 :: List.replicate (m.length - (i + 1)) 0 = dl V (w + (i + 1)) ++ 0 :: List.replicate (m.length - (i + 1)) 0 := by
          rw [<- Nat.add_assoc, dl]; simp
        rw [this]
        exact set_append_at _ _ _ _ _ (by rw [dl_length]; omega)
      rw [hset2, hl1, hl1]
      simp only [List.length_replicate]
      rw [decide_eq_true (by omega : (i : Int) < m.length), cond_true, and_tr (inR_of (by omega) (by omega)), and_tr (decide_eq_true (by omega)), and_tr (fits_ok (by omega) (by omega)), and_tr (inR_of (by omega) (by omega)), and_tr (decide_eq_true (by omega)), and_tr (inR_of (by omega) (by omega)), and_tr (decide_eq_true (by omega)),
        and_tr (fits_ok (by omega) (by omega)), and_tr (fits_ok (by omega) (by omega)), and_tr (inR_of (by omega) (by omega)), and_tr (decide_eq_true (by omega)), and_tr (fits_ok (by omega) (by omega))]
      rfl
    · simp only [st_z00_left_0]
      rw [decide_eq_false (by omega : ¬ (m.length : Int) < m.length), cond_false, Nat.sub_self, List.replicate_zero]
      have hV : V < 4294967296 ^ (w + m.length + 1) := by
        have h1 := mval_lt hm
        simp only [V]
        rw [hp2, Nat.pow_succ, Nat.pow_add, Nat.mul_left_comm, Nat.mul_assoc]
        refine Nat.mul_lt_mul_of_pos_left ?_ (pow_pos32 w)
        exact Nat.mul_lt_mul_of_lt_of_le h1 (by omega) (by decide)
      have hT : T m.length = X := by simp only [T, X]; rw [List.take_length]
      have hend : dl V (w + m.length) ++ [((c m.length : Nat) : Int)] = dl V (w + m.length + 1) := by
        rw [dl]
        have : c m.length = V / 4294967296 ^ (w + m.length) % 4294967296 := by
          simp only [c]
          rw [hT, hVX, Nat.pow_add, <- Nat.div_div_eq_div_mul, Nat.mul_div_cancel_left _ (pow_pos32 w)]
          rw [Nat.mod_eq_of_lt]
          rw [Nat.div_lt_iff_lt_mul (pow_pos32 _), Nat.mul_comm]
          have h1 := mval_lt hm
          simp only [X]
          exact Nat.mul_lt_mul_of_lt_of_le h1 (by omega) (by decide)
        rw [this]
      rw [hend, law_cut_take _ (dl_inW V _) (by rw [dl_length]; omega) (by rw [dl_length]; omega), digs_dl hV]


theorem law_words {N : Nat} (n : Nat) (hn : n < 18446744073709551616) (hN : 4 < N) (k : List Int -> Bool) : sZ71 N n k = k (digs n) := by
  unfold sZ71 GZ71
  have hw : InW [IntKind.wrap .u32 (n : Int), IntKind.wrap .u32 (Int.fdiv (n : Int) (2 ^ 32))] := by
    intro x hx
    simp only [wrap32, fdiv32, List.mem_cons, List.not_mem_nil, or_false] at hx
    rcases hx with rfl | rfl <;> omega
  have hv : mval [IntKind.wrap .u32 (n : Int), IntKind.wrap .u32 (Int.fdiv (n : Int) (2 ^ 32))] = n := by
    simp only [mval, wrap32, fdiv32]; omega
  rw [law_cut_take _ hw (by simp; omega) (by simp), hv]
def sg (neg : Bool) (n : Nat) : Bool := neg && decide (n ≠ 0)
theorem digs_len_pos (n : Nat) : decide (((digs n).length : Int) > 0) = decide (n ≠ 0) := by
  by_cases h : n = 0
  · subst h; rw [digs_zero]; simp
  · obtain ⟨-, h2⟩ := digs_length_bl n h
    rw [decide_eq_true (by omega), decide_eq_true h]
theorem put_k (neg : Bool) (n : Nat) (k : Bool -> List Int -> Bool) : cond (neg == true) (k (decide (((digs n).length : Int) > 0)) (digs n)) (k false (digs n)) = k (sg neg n) (digs n) := by
  rw [digs_len_pos]
  cases neg <;> rfl
theorem law_put_n {N : Nat} (neg : Bool) (m : List Int) (b : Bool) (hm : InW m) (hN : Short N m) (k : Bool -> List Int -> Bool) : sZ14 N neg m b k = k (sg neg (mval m)) (digs (mval m)) := by
  unfold sZ14 GZ14
  rw [law_cut m hm (by have := hN.1; omega) (by have := hN.2; omega)]
  exact put_k neg _ k
theorem law_SetUint64 {N : Nat} (n : Nat) (hn : n < 18446744073709551616) (b : Bool) (hN : Short N (digs n)) (h4 : 4 < N) (k : Bool -> List Int -> Bool) : sZ24 N n b k = k false (digs n) := by
  unfold sZ24 GZ24
  rw [law_words n hn h4, law_put_n false _ b (digs_inW n) hN, mval_digs]
  rfl
def ival (g : Bool) (n : Nat) : Int := if g = true then -(n : Int) else n
def intK (z : Int) (k : Bool -> List Int -> Bool) : Bool := k (decide (z < 0)) (digs z.natAbs)
theorem put_val (g : Bool) (n : Nat) (k : Bool -> List Int -> Bool) : k (sg g n) (digs n) = intK (ival g n) k := by
  unfold intK ival sg
  cases g
  · simp only [Bool.false_eq_true, if_false, Bool.false_and, Int.natAbs_natCast]
    rw [decide_eq_false (by omega)]
  · simp only [if_true, Bool.true_and, Int.natAbs_neg, Int.natAbs_natCast]
    congr 1
    by_cases h : n = 0
    · subst h; rfl
    · rw [decide_eq_true h, decide_eq_true (by omega)]
theorem ival_nat (z : Int) : ival (decide (z < 0)) z.natAbs = z := by
  unfold ival
  by_cases h : z < 0
  · rw [decide_eq_true h]; simp; omega
  · rw [decide_eq_false h]; simp; omega
theorem cmpN_ge {x y : Nat} : decide (cmpN x y >= 0) = decide (y <= x) := by
  unfold cmpN
  split
  · rw [decide_eq_false (by omega), decide_eq_false (by omega)]
  · split
    · rw [decide_eq_true (by omega), decide_eq_true (by omega)]
    · rw [decide_eq_true (by omega), decide_eq_true (by omega)]
theorem sum_cases (g1 g2 turn : Bool) (n1 n2 : Nat) (k : Bool -> List Int -> Bool) :
    cond (g1 == (g2 != turn)) (k (sg (g2 != turn) (n1 + n2)) (digs (n1 + n2))) (cond (decide (cmpN n1 n2 >= 0)) (k (sg g1 (n1 - n2)) (digs (n1 - n2))) (k (sg (g2 != turn) (n2 - n1)) (digs (n2 - n1))))
      = intK (ival g1 n1 + (if turn = true then -(ival g2 n2) else ival g2 n2)) k := by
  rw [put_val _ _ k, put_val _ _ k, put_val _ _ k, cmpN_ge]
  have key : ∀ a b : Int, a = b -> intK a k = intK b k := fun a b h => by rw [h]
  cases g1 <;> cases g2 <;> cases turn <;> simp only [ival] <;> by_cases h : n2 <= n1 <;> simp only [h, decide_true, decide_false, cond_true, cond_false, bne, beq_self_eq_true, Bool.not_true, Bool.not_false, Bool.false_eq_true, if_true, if_false, (by decide : (false == true) = false), (by decide : (true == false) = false)] <;> refine key _ _ ?_ <;> omega

theorem law_sum_n {N : Nat} (turn b g1 : Bool) (n1 : Nat) (g2 : Bool) (n2 : Nat) (h1 : Short N (digs n1)) (h2 : Short N (digs n2)) (h3 : Short N (digs (n1 + n2))) (k : Bool -> List Int -> Bool) :
    sZ29 N turn b g1 (digs n1) g2 (digs n2) k = intK (ival g1 n1 + (if turn = true then -(ival g2 n2) else ival g2 n2)) k := by
  unfold sZ29 GZ29
  have hs : ∀ m, m <= n1 + n2 -> Short N (digs m) := fun m hm => by
    have := digs_length_le hm
    exact ⟨by have := h3.1; omega, by have := h3.2; omega⟩
  rw [law_plus _ _ (digs_inW _) (digs_inW _) h1 h2, law_compare _ _ h1 h2, mval_digs, mval_digs, law_put_n _ _ _ (digs_inW _) h3, mval_digs, <- sum_cases]
  congr 1
  by_cases h : n2 <= n1
  · rw [law_minus _ _ (digs_inW _) (digs_inW _) (by rw [mval_digs, mval_digs]; exact h) h1, mval_digs, mval_digs, law_put_n _ _ _ (digs_inW _) (hs _ (by omega)), mval_digs, cmpN_ge, decide_eq_true h]
    rfl
  · rw [law_minus _ _ (digs_inW n2) (digs_inW n1) (by rw [mval_digs, mval_digs]; omega) h2, mval_digs, mval_digs, law_put_n _ _ _ (digs_inW _) (hs _ (by omega)), mval_digs, cmpN_ge, decide_eq_false h]
    rfl
def shOk (N m s : Nat) : Prop := (digs m).length + s / 32 + 4 < N /\ (digs m).length <= 1099511627776 /\ s < 4294967296 /\ Short N (digs (m * 2 ^ s))
theorem law_Lsh_n {N : Nat} (s : Nat) (b g : Bool) (n : Nat) (h : shOk N n s) (k : Bool -> List Int -> Bool) : sZ51 N s b g (digs n) k = intK (ival g (n * 2 ^ s)) k := by
  unfold sZ51 GZ51
  rw [law_left _ (digs_inW n) s h.2.2.1 h.1 h.2.1, mval_digs, law_put_n _ _ _ (digs_inW _) h.2.2.2, mval_digs, put_val _ _ k]
theorem digs_nil {n : Nat} : (((digs n).length : Int) == 0) = decide (n = 0) := by
  by_cases h : n = 0
  · subst h; rw [digs_zero]; rfl
  · obtain ⟨-, h2⟩ := digs_length_bl n h
    rw [decide_eq_false h]; simp; intro h'; rw [h'] at h2; simp at h2
theorem law_Sign_r (N : Nat) (g : Bool) (n : Nat) (k : Int -> Bool) : sZ11 N g (digs n) k = k (if n = 0 then 0 else if g = true then -1 else 1) := by
  unfold sZ11 GZ11
  rw [digs_nil]
  by_cases h : n = 0
  · rw [decide_eq_true h, if_pos h]; rfl
  · rw [decide_eq_false h, if_neg h]; cases g <;> rfl
theorem digs_one : digs 1 = [1] := by rw [digs_pos (by decide), digs_zero]; rfl
theorem nat_fdiv (a b : Nat) : Int.fdiv (a : Int) (b : Int) = ((a / b : Nat) : Int) := by
  rw [Int.fdiv_eq_ediv_of_nonneg _ (by omega)]; rfl
theorem law_format_sign (N : Nat) (k : Int -> Bool) : sZ104 N 52 2047 1075 k = k 9223372036854775808 := by rfl
theorem law_format_infinite (N : Nat) (k : Int -> Bool) : sZ44 N 52 2047 1075 k = k 9218868437227405312 := by rfl
theorem law_format_hidden (N : Nat) (k : Int -> Bool) : sZ72 N 52 2047 1075 k = k 4503599627370496 := by rfl
theorem law_format_none (N : Nat) (k : Int -> Bool) : sZ120 N 52 2047 1075 k = k 9221120237041090561 := by
  unfold sZ120 GZ120
  simp only [law_format_infinite, law_format_hidden]
  exact congrArg k (by decide)
theorem law_nan (N : Nat) (b : Nat) (k : Bool -> Bool) : sZ42 N b 52 2047 1075 k = k (isNaN b) := by
  unfold sZ42 GZ42
  simp only [law_format_sign, law_format_infinite, bitsN_andNot_top]
  congr 1
  rw [Bool.eq_iff_iff, decide_eq_true_iff, isNaN_iff]
  omega
def cnb (b : Nat) : Nat := if isNaN b then 9221120237041090561 else b
theorem law_canon (N : Nat) (b : Nat) (k : Int -> Bool) : sZ18 N b 52 2047 1075 k = k (cnb b) := by
  unfold sZ18 GZ18
  simp only [law_nan, law_format_none, cnb]
  cases isNaN b <;> rfl
theorem law_split (N : Nat) (b : Nat) (k : Bool -> Int -> Int -> Bool) : sZ27 N b 52 2047 1075 k = k (bitsN .and .u64 (cnb b) 9223372036854775808 != 0) ((cnb b / 4503599627370496 % 2048 : Nat) : Int) ((cnb b % 4503599627370496 : Nat) : Int) := by
  unfold sZ27 GZ27
  simp only [law_canon, law_format_sign, law_format_hidden]
  have e1 : (2 : Int) ^ (min (Int.toNat 52) 64) = ((4503599627370496 : Nat) : Int) := by decide
  have e2 : IntKind.wrap .u64 2047 = ((2 ^ 11 - 1 : Nat) : Int) := by decide
  have e3 : IntKind.wrap .u64 (4503599627370496 - 1) = ((2 ^ 52 - 1 : Nat) : Int) := by decide
  have e4 : decide ((0 : Int) <= 52) = true := by decide
  rw [e1, nat_fdiv, e2, e3, bitsN_and_mask _ _ (by decide), bitsN_and_mask _ _ (by decide), e4, fits_ok (by omega) (by omega)]
  rfl
theorem cls_cnb (b : Nat) : cls b = if (cnb b / 4503599627370496 % 2048) = 2047 then (if cnb b % 4503599627370496 = 0 then 2 else 1) else if cnb b / 4503599627370496 % 2048 = 0 then (if cnb b % 4503599627370496 = 0 then 3 else 4) else 5 := by
  unfold cls cnb
  by_cases h : isNaN b = true
  · rw [if_pos h, if_pos h]; decide
  · rw [if_neg h, if_neg h]
    have hn : ¬ (9218868437227405312 < b % 9223372036854775808) := fun q => h ((isNaN_iff b).2 q)
    by_cases h1 : b / 4503599627370496 % 2048 = 2047
    · rw [if_pos h1, if_pos h1, if_pos (by omega)]
    · rw [if_neg h1, if_neg h1]
theorem law_class (N : Nat) (b : Nat) (k : Int -> Bool) : sZ26 N b 52 2047 1075 k = k (cls b) := by
  unfold sZ26 GZ26
  simp only [law_split, cls_cnb b]
  generalize cnb b / 4503599627370496 % 2048 = e
  generalize cnb b % 4503599627370496 = f
  have d1 : ((e : Int) == 2047) = decide (e = 2047) := by rw [Bool.eq_iff_iff, beq_iff_eq, decide_eq_true_iff]; omega
  have d2 : ((e : Int) == 0) = decide (e = 0) := by rw [Bool.eq_iff_iff, beq_iff_eq, decide_eq_true_iff]; omega
  have d3 : ((f : Int) == 0) = decide (f = 0) := by rw [Bool.eq_iff_iff, beq_iff_eq, decide_eq_true_iff]; omega
  simp only [bne, d1, d2, d3]
  by_cases h1 : e = 2047 <;> by_cases h2 : e = 0 <;> by_cases h3 : f = 0 <;> simp [h1, h2, h3]
theorem law_Class (N : Nat) (b : Nat) (k : Int -> Bool) : sZ112 N b k = k (cls b) := by
  unfold sZ112 GZ112
  simp only [sZ78, s_an_of, G_an_of, law_class]
theorem law_Abs (N : Nat) (b : Nat) (k : Fl -> Bool) : sZ125 N b k = k (absF (some b)) := by
  unfold sZ125 GZ125
  simp only [sZ78, sZ30, bitsN_andNot_top]
  rfl


set_option linter.unusedVariables false

theorem cond_k (b : Bool) (k : Bool -> Bool) : cond b (k true) (k false) = k b := by cases b <;> rfl
theorem and_true_of {a c : Bool} (h : a = true) : (a && c) = c := by rw [h]; rfl
def Small (N n : Nat) : Prop := n < N /\ n <= 17592186044416
def of64 (l : List Int) : List Fl := l.map fun n => canon n.toNat
theorem law_Of64 {N : Nat} (l : List Int) (hl : Small N l.length) (k : List Fl -> Bool) : sZ61 N l k = k (of64 l) := by
  unfold sZ61 GZ61 sZ30
  refine (iterG_eq (fun i => ((i : Int), (l.take i).map fun n => canon n.toNat)) l.length hl.1 (fun i hi K => ?_) (fun K => ?_) : _)
  · have h2 := hl.2
    have e1 : (l.take (i + 1)).map (fun n => canon n.toNat) = (l.take i).map (fun n => canon n.toNat) ++ [canon (l.getD i 0).toNat] := by
      rw [List.take_succ_eq_append_getElem hi, List.map_append, List.getD_eq_getElem?_getD, List.getElem?_eq_getElem hi]; rfl
    simp only [st_z01_Of64_0, Int.toNat_natCast]
    rw [dec_true (by omega), cond_true, and_true_of (inR_of (by omega) (by omega)), and_true_of (dec_true (by simp; omega)), and_true_of (fits_ok (by omega) (by omega)), e1]
    rfl
  · simp only [st_z01_Of64_0]
    rw [dec_false (by omega), cond_false, List.take_length]; rfl
def allFin (xs : List Fl) : Bool := allN (fun i => finF (xs.getD i none)) xs.length
theorem law_Finite {N : Nat} (xs : List Fl) (hl : Small N xs.length) (k : Bool -> Bool) : sZ17 N xs k = k (allFin xs) := by
  unfold sZ17 GZ17 sZ93
  rw [<- cond_k (allFin xs) k]
  refine (iterG_all (fun i => (i : Int)) (fun i => finF (xs.getD i none)) xs.length hl.1 (fun i hi K => ?_) (fun K => ?_) : _)
  · have h2 := hl.2
    simp only [st_an_Finite_0, Int.toNat_natCast]
    rw [dec_true (by omega), cond_true, and_true_of (inR_of (by omega) (by omega)), and_true_of (fits_ok (by omega) (by omega))]
    have hc := clsF_fin (xs.getD i none)
    generalize clsF (xs.getD i none) = c at hc ⊢
    generalize finF (xs.getD i none) = f at hc ⊢
    have d1 : (c == 1) = decide (c = 1) := rfl
    have d2 : (c == 2) = decide (c = 2) := rfl
    rw [d1, d2]
    generalize decide (c = 1) = u at *
    generalize decide (c = 2) = v at *
    cases u <;> cases v <;> cases f <;> first | rfl | cases hc
  · simp only [st_an_Finite_0]
    rw [dec_false (by omega), cond_false]
def bitsF : Fl -> Nat
  | none => 9221120237041090561
  | some b => cnb b
theorem order_self (d : Ieee.Datum) (h : d.isNaN = false) : d.order d = some .eq := by
  cases d with
  | nan s t => cases h
  | infinity s => simp [Ieee.Datum.order, compare, compareOfLessAndEq]
  | number s m i => simp [Ieee.Datum.order, compare, compareOfLessAndEq]
theorem feq_self' (b : Nat) (h : isNaN b = false) : (Ieee.double.order b b == some .eq) = true := by
  unfold Ieee.Format.order
  rw [order_self _ h]; rfl
theorem feq_self (b : Nat) : feq (some b) (some b) = !isNaN b := by
  cases h : isNaN b with
  | true => simp [feq, ford, order_nan_left b h]
  | false => simp only [feq, ford, Bool.not_false]; exact feq_self' b h
theorem law_Bits (N : Nat) (x : Fl) (k : Int -> Bool) : sZ111 N x k = k (bitsF x) := by
  unfold sZ111 GZ111 sZ57
  cases x with
  | none => rfl
  | some b =>
    rw [feq_self]
    simp only [bitsF, cnb]
    cases isNaN b <;> rfl
theorem nat_tmod (a b : Nat) : Int.tmod (a : Int) (b : Int) = ((a % b : Nat) : Int) := by
  rw [Int.tmod_eq_emod_of_nonneg (by omega)]; rfl
theorem law_Split (N : Nat) (x : Fl) (k : Bool -> Int -> Int -> Bool) : sZ45 N x k = k (Int.fdiv (bitsF x : Int) (2 ^ 63) == 1) ((bitsF x / 4503599627370496 % 2048 : Nat) : Int) ((bitsF x % 4503599627370496 : Nat) : Int) := by
  unfold sZ45 GZ45
  simp only [law_Bits]
  have e1 : (2 : Int) ^ 52 = ((4503599627370496 : Nat) : Int) := by decide
  have e2 : (2048 : Int) = ((2048 : Nat) : Int) := rfl
  have e3 : (4503599627370496 : Int) = ((4503599627370496 : Nat) : Int) := rfl
  rw [e1, e2, e3, nat_fdiv, nat_tmod, nat_tmod, fits_ok (by omega) (by omega)]
  rfl
theorem clsF_bits (x : Fl) : clsF x = if (bitsF x / 4503599627370496 % 2048) = 2047 then (if bitsF x % 4503599627370496 = 0 then 2 else 1) else if bitsF x / 4503599627370496 % 2048 = 0 then (if bitsF x % 4503599627370496 = 0 then 3 else 4) else 5 := by
  cases x with
  | none => decide
  | some b => exact cls_cnb b
theorem law_ref_Class (N : Nat) (x : Fl) (k : Int -> Bool) : sZ97 N x k = k (clsF x) := by
  unfold sZ97 GZ97 sZ68 GZ68
  simp only [law_Split, clsF_bits x]
  generalize bitsF x / 4503599627370496 % 2048 = e
  generalize bitsF x % 4503599627370496 = f
  have d1 : ((e : Int) == 2047) = decide (e = 2047) := by rw [Bool.eq_iff_iff, beq_iff_eq, decide_eq_true_iff]; omega
  have d2 : ((e : Int) == 0) = decide (e = 0) := by rw [Bool.eq_iff_iff, beq_iff_eq, decide_eq_true_iff]; omega
  have d3 : ((f : Int) == 0) = decide (f = 0) := by rw [Bool.eq_iff_iff, beq_iff_eq, decide_eq_true_iff]; omega
  simp only [bne, d1, d2, d3]
  by_cases h1 : e = 2047 <;> by_cases h2 : e = 0 <;> by_cases h3 : f = 0 <;> simp [h1, h2, h3]
theorem law_ref_Finite (N : Nat) (x : Fl) (k : Bool -> Bool) : sZ53 N x k = k (finF x) := by
  unfold sZ53 GZ53
  simp only [law_ref_Class]
  congr 1
  have h1 := clsF_fin x
  have h2 := clsF_lo x
  rw [Bool.eq_iff_iff, decide_eq_true_iff]
  cases hf : finF x with
  | true =>
    rw [hf] at h1
    simp only [Bool.not_true, Bool.or_eq_false_iff, decide_eq_false_iff_not] at h1
    exact ⟨fun _ => rfl, fun _ => by omega⟩
  | false =>
    rw [hf] at h1
    simp only [Bool.not_false, Bool.or_eq_true, decide_eq_true_eq] at h1
    exact ⟨fun _ => by omega, fun h => by cases h⟩
theorem law_AllFinite {N : Nat} (xs : List Fl) (hl : Small N xs.length) (k : Bool -> Bool) : sZ46 N xs k = k (allFin xs) := by
  unfold sZ46 GZ46
  rw [<- cond_k (allFin xs) k]
  refine (iterG_all (fun i => (i : Int)) (fun i => finF (xs.getD i none)) xs.length hl.1 (fun i hi K => ?_) (fun K => ?_) : _)
  · have h2 := hl.2
    simp only [stZ135, Int.toNat_natCast, law_ref_Finite]
    rw [dec_true (by omega), cond_true, and_true_of (inR_of (by omega) (by omega)), and_true_of (fits_ok (by omega) (by omega))]
    cases finF (xs.getD i none) <;> rfl
  · simp only [stZ135]
    rw [dec_false (by omega), cond_false]
theorem iterG_eq0 {σ : Type} {step : σ -> (σ -> Bool) -> Bool} {s : σ} (C : Nat -> σ) (n : Nat) {N : Nat} (h0 : s = C 0) (hn : n < N) {out : Bool} (hs : ∀ i, i < n -> ∀ K : σ -> Bool, step (C i) K = K (C (i + 1))) (hx : ∀ K, step (C n) K = out) : iterG N step s = out := by
  subst h0; exact iterG_eq C n hn hs hx
theorem ne_dec (a b : Int) : (a != b) = !decide (a = b) := rfl

theorem law_size (N : Nat) (n : Int) (k : Bool -> Bool) : sZ73 N n k = k (decide (0 <= n /\ n <= 12)) := by
  unfold sZ73 GZ73
  by_cases h1 : 0 <= n
  · rw [dec_true (p := n >= 0) h1]; simp [h1]
  · rw [dec_false (p := n >= 0) h1]; simp [h1]

def chk (r c : Int) (xs : List Fl) : Int := if (0 <= r /\ r <= 12) /\ (0 <= c /\ c <= 12) then (if (xs.length : Int) = r * c then (if allFin xs = true then 0 else 4) else 3) else 1
theorem rc_fits {r c : Int} (hr : 0 <= r /\ r <= 12) (hc : 0 <= c /\ c <= 12) : fits .i64 (r * c) = true := by
  have h1 : 0 <= r * c := Int.mul_nonneg hr.1 hc.1
  have h2 : r * c <= 12 * 12 := Int.mul_le_mul hr.2 hc.2 hc.1 (by decide)
  exact fits_ok (by omega) (by omega)
theorem law_Check {N : Nat} (r c : Int) (xs : List Fl) (hl : Small N xs.length) (k : Int -> Bool) : sZ25 N r c xs k = k (chk r c xs) := by
  unfold sZ25 GZ25 chk
  simp only [law_size, law_Finite xs hl]
  by_cases hr : 0 <= r /\ r <= 12
  · by_cases hc : 0 <= c /\ c <= 12
    · rw [dec_true hr, dec_true hc, if_pos ⟨hr, hc⟩, ne_dec, rc_fits hr hc]
      by_cases hx : (xs.length : Int) = r * c
      · rw [dec_true hx, if_pos hx]; cases allFin xs <;> rfl
      · rw [dec_false hx, if_neg hx]; rfl
    · rw [dec_true hr, dec_false hc, if_neg (fun h => hc h.2)]; rfl
  · rw [dec_false hr, if_neg (fun h => hr h.1)]; rfl
theorem chk_zero {r c : Int} {xs : List Fl} : chk r c xs = 0 ↔ ((0 <= r /\ r <= 12) /\ (0 <= c /\ c <= 12)) /\ (xs.length : Int) = r * c /\ allFin xs = true := by
  unfold chk
  split
  · split
    · split
      · simp [*]
      · simp [*]
    · simp [*]
  · simp [*]

set_option linter.unusedVariables false

set_option linter.unusedVariables false

set_option linter.unusedVariables false

theorem digs_len_le : ∀ (j n : Nat), n < 4294967296 ^ j -> (digs n).length <= j
  | 0, n, h => by
    have : n = 0 := by simp at h; exact h
    subst this; rw [digs_zero]; exact Nat.le_refl _
  | j + 1, n, h => by
    by_cases h0 : n = 0
    · subst h0; rw [digs_zero]; simp
    · rw [digs_pos h0, List.length_cons]
      have : n / 4294967296 < 4294967296 ^ j := Nat.div_lt_of_lt_mul (by rw [Nat.pow_succ] at h; omega)
      have := digs_len_le j _ this
      omega
theorem short_pow {N n j : Nat} (hN : 1000 <= N) (hj : j <= 900) (h : n < 4294967296 ^ j) : Short N (digs n) := by
  have := digs_len_le j n h
  exact ⟨by omega, by omega⟩
theorem short_small {N n : Nat} (hN : 1000 <= N) (h : n < 18446744073709551616) : Short N (digs n) := short_pow (j := 2) hN (by decide) (by
  have : (4294967296 : Nat) ^ 2 = 18446744073709551616 := by decide
  omega)
theorem pow32 (j : Nat) : 4294967296 ^ j = 2 ^ (32 * j) := by rw [Nat.pow_mul]
theorem or0 (n : Nat) (h : n < 18446744073709551616) : bitsN .or .u64 0 (n : Int) = n := by
  have := bitsN_or_disj64 0 n 0 (by decide) (by omega)
  simpa using this
theorem orTop (n : Nat) (h : n < 9223372036854775808) : bitsN .or .u64 (n : Int) 9223372036854775808 = ((9223372036854775808 + n : Nat) : Int) := by
  have := bitsN_or_disj64 n 1 63 (by simpa using h) (by simp; omega)
  simpa using this
set_option linter.unusedVariables false

theorem and11 (n : Nat) : bitsN .and .u64 (n : Int) 2047 = ((n % 2048 : Nat) : Int) := by
  have := bitsN_and_mask n 11 (by decide)
  simpa using this
theorem fdiv52 (b : Nat) : Int.fdiv (b : Int) (2 ^ 52) = ((b / 4503599627370496 : Nat) : Int) := by
  rw [show (2 : Int) ^ 52 = ((4503599627370496 : Nat) : Int) by decide, nat_fdiv]
theorem nearest_le (s : Bool) (m : Nat) (i : Int) : ∃ r, Ieee.double.nearest s m i = Ieee.double.word s r /\ r <= 9218868437227405312 := by
  unfold Format.nearest
  split
  · exact ⟨0, rfl, by omega⟩
  · rw [infRung_d]; exact ⟨_, rfl, Nat.min_le_right _ _⟩
theorem read_word_le (s : Bool) {r : Nat} (h : r <= 9218868437227405312) : Ieee.double.read (Ieee.double.word s r) = .infinity s \/ ∃ m i, Ieee.double.read (Ieee.double.word s r) = .number s m i := by
  have hw : Ieee.double.word s r % 9223372036854775808 = r := by
    unfold Format.word; rw [signWeight_d]; cases s <;> simp <;> omega
  have hs : (Ieee.double.word s r / 9223372036854775808 % 2 == 1) = s := by
    unfold Format.word; rw [signWeight_d]
    cases s
    · simp; omega
    · have : (9223372036854775808 + r) / 9223372036854775808 = 1 := by omega
      simp [this]
  unfold Format.read
  simp only [signWeight_d, binade_d, infRung_d, hw, hs]
  split
  · exact .inr ⟨_, _, rfl⟩
  · split
    · exact .inr ⟨_, _, rfl⟩
    · split
      · exact .inl rfl
      · omega
theorem nearest_W64 (s : Bool) (m : Nat) (i : Int) : W64 (Ieee.double.nearest s m i) := by
  obtain ⟨r, h, hr⟩ := nearest_le s m i
  rw [h]; exact word_W64 s (by omega)
def sclF (x : Fl) (k : Int) : Fl := match x with
  | some b => match Ieee.double.read b with
    | .number s m i => some (Ieee.double.nearest s m (i + k))
    | _ => some b
  | none => none
theorem sclF_num {b : Nat} {s : Bool} {m : Nat} {i : Int} (h : Ieee.double.read b = .number s m i) (k : Int) : sclF (some b) k = some (Ieee.double.nearest s m (i + k)) := by
  unfold sclF; simp only [h]
set_option linter.unusedVariables false

theorem flt_w (a b : Nat) : flt (some a) (some b) = ((Ieee.double.read a).order (Ieee.double.read b) == some .lt) := rfl
theorem feq_w (a b : Nat) : feq (some a) (some b) = ((Ieee.double.read a).order (Ieee.double.read b) == some .eq) := rfl
theorem fgt_w (a b : Nat) : fgt (some a) (some b) = ((Ieee.double.read a).order (Ieee.double.read b) == some .gt) := rfl
theorem fmul_w (a b : Nat) : fmul (some a) (some b) = ((Ieee.double.read a).product (Ieee.double.read b)).map Ieee.double.write := rfl
theorem absF_num {b : Nat} (hb : W64 b) {s : Bool} {m : Nat} {i : Int} (h : Ieee.double.read b = .number s m i) : ∃ c, absF (some b) = some c /\ W64 c /\ Ieee.double.read c = .number false m i := by
  have e : Ieee.double.read (b % 9223372036854775808) = .number false m i := by
    obtain ⟨hs, hlt, h⟩ := read_number h
    unfold Format.read
    simp only [signWeight_d, binade_d, infRung_d, leastPlace_d]
    have e1 : b % 9223372036854775808 % 9223372036854775808 = b % 9223372036854775808 := by omega
    have e2 : (b % 9223372036854775808 / 9223372036854775808 % 2 == 1) = false := by
      rw [beq_eq_false_iff_ne]; omega
    rw [e1, e2]
    rcases h with ⟨h1, rfl, rfl⟩ | ⟨h1, rfl, rfl⟩
    · rw [if_pos h1]
    · rw [if_neg (by omega), if_pos hlt]
  have hn : isNaN (b % 9223372036854775808) = false := by unfold isNaN; rw [e]; rfl
  refine ⟨b % 9223372036854775808, ?_, by unfold W64 at *; omega, e⟩
  show canon _ = _
  unfold canon; rw [hn]; rfl
theorem read_two52 : Ieee.double.read 4841369599423283200 = .number false 4503599627370496 0 := by decide
theorem read_least : Ieee.double.read 4503599627370496 = .number false 4503599627370496 (-1074) := by decide
theorem read_tiny53 : Ieee.double.read 4368491638549381120 = .number false 4503599627370496 (-105) := by decide
theorem flt_least {c : Nat} {m : Nat} {i : Int} (h : Ieee.double.read c = .number false m i) : flt (some c) (some 4503599627370496) = decide (m < 4503599627370496 /\ i = -1074) := by
  have hg := place_ge h
  have hr := read_number h
  rw [flt_w, h, read_least]
  simp only [Datum.order]
  have hmin : min i (-1074) = -1074 := by omega
  have e0 : (-1074 - -1074 : Int).toNat = 0 := by decide
  rw [hmin, e0]
  have s1 : signed false m (i - -1074).toNat = ((m <<< (i - -1074).toNat : Nat) : Int) := rfl
  have s2 : signed false 4503599627370496 0 = ((4503599627370496 : Nat) : Int) := rfl
  rw [s1, s2, Nat.shiftLeft_eq]
  have hp : 0 < 2 ^ (i - -1074).toNat := Nat.two_pow_pos _
  have hle : m <= m * 2 ^ (i - -1074).toNat := Nat.le_mul_of_pos_right m hp
  by_cases hc : m < 4503599627370496 /\ i = -1074
  · rw [decide_eq_true hc]
    obtain ⟨h1, rfl⟩ := hc
    rw [e0, Nat.pow_zero, Nat.mul_one]
    have : compare (m : Int) ((4503599627370496 : Nat) : Int) = .lt := Int.compare_eq_lt.2 (by omega)
    rw [this]; rfl
  · rw [decide_eq_false hc]
    have hm : 4503599627370496 <= m := by
      rcases hr.2.2 with ⟨h1, rfl, rfl⟩ | ⟨h1, rfl, rfl⟩
      · omega
      · omega
    generalize m * 2 ^ (i - -1074).toNat = q at hle
    have : compare (q : Int) ((4503599627370496 : Nat) : Int) ≠ .lt := fun e => by
      have := Int.compare_eq_lt.1 e; omega
    cases e : compare (q : Int) ((4503599627370496 : Nat) : Int) with
    | lt => exact absurd e this
    | eq => rfl
    | gt => rfl

theorem law_normalize (N : Nat) {b : Nat} (hb : W64 b) {s : Bool} {m : Nat} {i : Int} (h : Ieee.double.read b = .number s m i) (h0 : m ≠ 0) :
    ∃ b' M P adj, (∀ κ : Fl -> Int -> Bool, sZ21 N (some b) κ = κ (some b') adj) /\ W64 b' /\ Ieee.double.read b' = .number s M P /\ 4503599627370496 <= M /\ M < 9007199254740992 /\ -1074 <= P /\ P <= 971 /\ -52 <= adj /\ (adj <= 0 /\ P + adj = i + m.log2 - 52) /\ ∀ k, Ieee.double.nearest s M (P + adj + k) = Ieee.double.nearest s m (i + k) := by
  obtain ⟨c, hc, hcw, hcr⟩ := absF_num hb h
  have hp := place_le h
  have hg := place_ge h
  have hr := read_number h
  by_cases hd : m < 4503599627370496 /\ i = -1074
  · obtain ⟨h1, rfl⟩ := hd
    have hl : m.log2 < 52 := (Nat.log2_lt h0).2 (by simpa using h1)
    obtain ⟨hM1, hM2⟩ := lift52 h0 hp.2
    have hmul : fmul (some b) (some 4841369599423283200) = some (Ieee.double.nearest s (m * 4503599627370496) (-1074)) := by
      rw [fmul_w, h, read_two52]
      have e : (Datum.number s m (-1074)).product (.number false 4503599627370496 0) = some (.number (s ^^ false) (m * 4503599627370496) (-1074 + 0)) := rfl
      rw [e, Option.map_some, Bool.xor_false, Int.add_zero, write_number]
    have hn : Ieee.double.nearest s (m * 4503599627370496) (-1074) = Ieee.double.nearest s (m <<< (52 - m.log2)) (-1074 + m.log2) := by
      have := nearest_shift s (m <<< (52 - m.log2)) (-1074 + m.log2) m.log2
      rw [<- Nat.shiftLeft_add, show 52 - m.log2 + m.log2 = 52 by omega] at this
      have e1 : m * 4503599627370496 = m <<< 52 := by
        have : (2 : Nat) ^ 52 = 4503599627370496 := by decide
        rw [Nat.shiftLeft_eq, this]
      have e2 : (-1074 + (m.log2 : Int)) - (m.log2 : Int) = -1074 := by omega
      rw [e2] at this
      rw [e1, this]
    have hw : Ieee.double.nearest s (m <<< (52 - m.log2)) (-1074 + m.log2) = Ieee.double.word s ((-1074 + (m.log2 : Int) + 1075).toNat * 4503599627370496 + (m <<< (52 - m.log2) - 4503599627370496)) :=
      write_read (word_W64 s (by omega)) (read_normal s _ _ ⟨hM1, hM2⟩ (by omega))
    refine ⟨Ieee.double.word s ((-1074 + (m.log2 : Int) + 1075).toNat * 4503599627370496 + (m <<< (52 - m.log2) - 4503599627370496)), m <<< (52 - m.log2), -1074 + m.log2, -52, fun κ => ?_, word_W64 s (by omega), read_normal s _ _ ⟨hM1, hM2⟩ (by omega), hM1, hM2, by omega, by omega, by omega, ⟨by omega, by omega⟩, fun k => ?_⟩
    · unfold sZ21 GZ21
      show cond (flt (absF (some b)) (some 4503599627370496)) _ _ = _
      rw [hc, flt_least hcr, decide_eq_true ⟨h1, rfl⟩, cond_true, hmul, hn, hw]
    · have e : (-1074 + (m.log2 : Int) + -52 + k) = -1074 + k - ((52 - m.log2 : Nat) : Int) := by omega
      rw [e, nearest_lift]
  · have hm : 4503599627370496 <= m := by
      rcases hr.2.2 with ⟨h1, rfl, rfl⟩ | ⟨h1, rfl, rfl⟩
      · omega
      · omega
    refine ⟨b, m, i, 0, fun κ => ?_, hb, h, hm, hp.2, hg, hp.1, by omega, ⟨by omega, by rw [log2_normal ⟨hm, hp.2⟩]; omega⟩, fun k => by rw [Int.add_zero]⟩
    unfold sZ21 GZ21
    show cond (flt (absF (some b)) (some 4503599627370496)) _ _ = _
    rw [hc, flt_least hcr, decide_eq_false hd, cond_false]

theorem feq_zero {b : Nat} {s : Bool} {m : Nat} {i : Int} (h : Ieee.double.read b = .number s m i) : feq (some b) (some 0) = decide (m = 0) := by
  rw [feq_w, h, read_zero]
  simp only [Datum.order, signed_zero]
  by_cases h0 : m = 0
  · subst h0; rw [signed_zero]; rfl
  · rw [decide_eq_false h0]
    have hp : m <<< (i - min i (-1074)).toNat ≠ 0 := by
      rw [Nat.shiftLeft_eq]
      exact Nat.mul_ne_zero h0 (Nat.ne_of_gt (Nat.two_pow_pos _))
    have hne : signed s m (i - min i (-1074)).toNat ≠ 0 := by
      unfold signed
      generalize m <<< (i - min i (-1074)).toNat = q at hp
      cases s <;> simp <;> omega
    cases e : compare (signed s m (i - min i (-1074)).toNat) 0 with
    | lt => rfl
    | gt => rfl
    | eq => exact absurd (Int.compare_eq_eq.1 e) hne
theorem law_IsNaN (N : Nat) (x : Fl) (k : Bool -> Bool) : sZ84 N x k = k (!feq x x) := rfl
theorem law_IsInf_fin (N : Nat) {x : Fl} (hx : finF x = true) (hw : FW x) (k : Bool -> Bool) : sZ62 N x 0 k = k false := by
  obtain ⟨b, s, m, i, rfl, h⟩ := finF_num hx
  obtain ⟨c, hc, hcw, hcr⟩ := absF_num (hw b rfl) h
  have hp := place_le hcr
  have hg := place_ge hcr
  unfold sZ62 GZ62
  show k (fgt (absF (some b)) (some 9218868437227405311)) = _
  rw [hc]
  congr 1
  have hr : Ieee.double.read 9218868437227405311 = .number false 9007199254740991 971 := by decide
  rw [fgt_w, hcr, hr]
  simp only [Datum.order]
  have hmin : min i 971 = i := by omega
  have e0 : (i - i).toNat = 0 := by omega
  rw [hmin, e0]
  have s1 : signed false m 0 = ((m : Nat) : Int) := rfl
  have s2 : signed false 9007199254740991 (971 - i).toNat = ((9007199254740991 <<< (971 - i).toNat : Nat) : Int) := rfl
  rw [s1, s2, Nat.shiftLeft_eq]
  have hpw : 0 < 2 ^ (971 - i).toNat := Nat.two_pow_pos _
  have hle : 9007199254740991 <= 9007199254740991 * 2 ^ (971 - i).toNat := Nat.le_mul_of_pos_right _ hpw
  generalize 9007199254740991 * 2 ^ (971 - i).toNat = q at hle
  have : compare (m : Int) (q : Int) ≠ .gt := fun e => by
    have := Int.compare_eq_gt.1 e; omega
  cases e : compare (m : Int) (q : Int) with
  | gt => exact absurd e this
  | eq => rfl
  | lt => rfl

theorem expo {b : Nat} (hb : W64 b) {s : Bool} {M : Nat} {P : Int} (h : Ieee.double.read b = .number s M P) (hM : 4503599627370496 <= M) : ((b / 4503599627370496 % 2048 : Nat) : Int) = P + 1075 := by
  obtain ⟨-, hlt, h⟩ := read_number h
  rcases h with ⟨h1, rfl, rfl⟩ | ⟨h1, rfl, rfl⟩
  · omega
  · omega
theorem law_frexp (N : Nat) {x : Fl} (hx : finF x = true) (hw : FW x) (h0 : feq x (some 0) = false) : ∃ fr e, (∀ κ : Fl -> Int -> Bool, sZ74 N x κ = κ fr e) /\ -1200 <= e /\ e <= 1200 /\ ∀ b s m i, x = some b -> Ieee.double.read b = .number s m i -> e = i + m.log2 + 1 := by
  obtain ⟨b, s, m, i, rfl, h⟩ := finF_num hx
  have hb := hw b rfl
  have hm : m ≠ 0 := by
    rw [feq_zero h] at h0
    exact of_decide_eq_false h0
  obtain ⟨b', M, P, adj, h1, h2, h3, h4, h5, h6, h7, h8, h9, h10⟩ := law_normalize N hb h hm
  have he := expo h2 h3 h4
  refine ⟨canon (Int.toNat (bitsN .or .u64 (bitsN .andNot .u64 (b' : Int) 9218868437227405312) 4602678819172646912)), adj + (P + 1075 - 1023 + 1), fun κ => ?_, by omega, by omega, fun b2 s2 m2 i2 hx2 hr2 => by cases hx2; rw [h] at hr2; cases hr2; omega⟩
  · unfold sZ74 GZ74 sZ121 GZ121
    rw [h0, cond_false, law_IsInf_fin N hx hw]
    dsimp only
    rw [show ((false : Bool) == false) = true from rfl, cond_true, law_IsNaN, feq_refl hx, Bool.not_true, cond_false, h1]
    have e : sZ57 N (some b') = fun k => k (b' : Int) := rfl
    rw [e]
    dsimp only
    rw [fdiv52, and11, he, and_tr (fits_ok (by omega) (by omega)), and_tr (fits_ok (by omega) (by omega)), and_tr (fits_ok (by omega) (by omega)), and_tr (fits_ok (by omega) (by omega))]
    rfl

theorem and11_i (n : Nat) (h : n < 4096) : bitsN .and .i64 (n : Int) 2047 = ((n % 2048 : Nat) : Int) := by
  unfold bitsN bitsI
  simp only [Option.getD_some]
  have h2047 : (2047 : Int) = ((2 ^ 11 - 1 : Nat) : Int) := by simp
  rw [h2047]
  have e : ((BitVec.ofInt (IntKind.bits .i64) (n : Int)) &&& (BitVec.ofInt (IntKind.bits .i64) ((2 ^ 11 - 1 : Nat) : Int))).toNat = n % 2048 := by
    show ((BitVec.ofInt 64 (n : Int)) &&& (BitVec.ofInt 64 ((2 ^ 11 - 1 : Nat) : Int))).toNat = n % 2 ^ 11
    rw [BitVec.toNat_and, BitVec.ofInt_natCast, BitVec.ofInt_natCast, BitVec.toNat_ofNat, BitVec.toNat_ofNat, Nat.mod_eq_of_lt (a := 2 ^ 11 - 1) (by decide), Nat.and_two_pow_sub_one_eq_mod, Nat.mod_mod_of_dvd]
    exact Nat.pow_dvd_pow 2 (by decide)
  rw [e]
  have hw : ∀ z : Nat, z < 4096 -> IntKind.wrap .i64 (z : Int) = z := fun z hz => by
    unfold IntKind.wrap
    have h1 : IntKind.signed .i64 = true := rfl
    have h2 : IntKind.bits .i64 = 64 := rfl
    have h3 : (2 : Int) ^ 64 = 18446744073709551616 := by decide
    have h4 : (2 : Int) ^ (64 - 1) = 9223372036854775808 := by decide
    simp only [h1, h2, h3, h4, Bool.true_and, decide_eq_true_eq]
    split <;> omega
  rw [hw _ (by omega)]
theorem flt_zero {b : Nat} {s : Bool} {m : Nat} {i : Int} (h : Ieee.double.read b = .number s m i) (h0 : m ≠ 0) : flt (some b) (some 0) = s := by
  rw [flt_w, h, read_zero]
  simp only [Datum.order, signed_zero]
  have hp : m <<< (i - min i (-1074)).toNat ≠ 0 := by
    rw [Nat.shiftLeft_eq]
    exact Nat.mul_ne_zero h0 (Nat.ne_of_gt (Nat.two_pow_pos _))
  cases s with
  | true =>
    have : signed true m (i - min i (-1074)).toNat < 0 := by
      show -((m <<< (i - min i (-1074)).toNat : Nat) : Int) < 0
      generalize m <<< (i - min i (-1074)).toNat = q at hp
      omega
    rw [Int.compare_eq_lt.2 this]; rfl
  | false =>
    have : 0 < signed false m (i - min i (-1074)).toNat := by
      show 0 < ((m <<< (i - min i (-1074)).toNat : Nat) : Int)
      generalize m <<< (i - min i (-1074)).toNat = q at hp
      omega
    rw [Int.compare_eq_gt.2 this]; rfl
theorem num_sign {b : Nat} (hb : W64 b) {s : Bool} {m : Nat} {i : Int} (h : Ieee.double.read b = .number s m i) : b / 9223372036854775808 * 9223372036854775808 = Ieee.double.word s 0 := by
  obtain ⟨rfl, -, -⟩ := read_number h
  unfold Format.word; rw [signWeight_d]
  unfold W64 at hb
  by_cases h1 : b / 9223372036854775808 % 2 = 1
  · rw [h1]; simp; omega
  · rw [show (b / 9223372036854775808 % 2 == 1) = false by rw [beq_eq_false_iff_ne]; exact h1]; simp; omega
theorem copysign_zero (N : Nat) {b : Nat} (hb : W64 b) {s : Bool} {m : Nat} {i : Int} (h : Ieee.double.read b = .number s m i) (κ : Fl -> Bool) : sZ56 N (some 0) (some b) κ = κ (some (Ieee.double.word s 0)) := by
  unfold sZ56 GZ56
  have e0 : sZ57 N (some 0) = fun k => k ((0 : Nat) : Int) := rfl
  have e1 : sZ57 N (some b) = fun k => k (b : Int) := rfl
  rw [e0, e1]
  dsimp only
  have hand : bitsN .and .u64 (b : Int) 9223372036854775808 = ((b / 9223372036854775808 * 9223372036854775808 : Nat) : Int) := by
    unfold bitsN bitsI
    simp only [Option.getD_some]
    unfold W64 at hb
    have e : ((BitVec.ofInt (IntKind.bits .u64) (b : Int)) &&& (BitVec.ofInt (IntKind.bits .u64) (9223372036854775808 : Int))).toNat = b / 9223372036854775808 * 9223372036854775808 := by
      show ((BitVec.ofInt 64 (b : Int)) &&& (BitVec.ofInt 64 ((2 ^ 63 : Nat) : Int))).toNat = _
      have h64 : (2 : Nat) ^ 64 = 18446744073709551616 := by decide
      have h63 : (2 : Nat) ^ 63 = 9223372036854775808 := by decide
      rw [BitVec.toNat_and, BitVec.ofInt_natCast, BitVec.ofInt_natCast, BitVec.toNat_ofNat, BitVec.toNat_ofNat, Nat.mod_eq_of_lt (by omega), Nat.mod_eq_of_lt (a := 2 ^ 63) (by decide)]
      have hq : b / 9223372036854775808 = 0 \/ b / 9223372036854775808 = 1 := by omega
      have ht := Nat.testBit_eq_decide_div_mod_eq (x := b) (i := 63)
      rw [h63] at ht
      rcases hq with hq | hq
      · rw [hq, Nat.zero_mul]
        rw [hq] at ht
        apply Nat.eq_of_testBit_eq
        intro j
        rw [Nat.testBit_and, Nat.testBit_two_pow, Nat.zero_testBit]
        by_cases hj : 63 = j
        · subst hj; rw [ht]; rfl
        · rw [decide_eq_false hj, Bool.and_false]
      · rw [hq, Nat.one_mul, <- h63]
        rw [hq] at ht
        apply Nat.eq_of_testBit_eq
        intro j
        rw [Nat.testBit_and, Nat.testBit_two_pow]
        by_cases hj : 63 = j
        · subst hj; rw [ht]; rfl
        · rw [decide_eq_false hj, Bool.and_false]
    rw [e, wrap_u64 _ (by omega)]
  have h00 : bitsN .andNot .u64 ((0 : Nat) : Int) 9223372036854775808 = 0 := by rw [bitsN_andNot_top]; rfl
  rw [hand, h00, num_sign hb h, or0 _ (word_W64 s (by decide))]
  show κ (canon (Int.toNat ((Ieee.double.word s 0 : Nat) : Int))) = _
  rw [Int.toNat_natCast]
  congr 1
  cases s <;> decide

theorem law_Inf_neg (N : Nat) (κ : Fl -> Bool) : s_m_Inf N (-1) κ = κ (some 18442240474082181120) := by
  unfold s_m_Inf G_m_Inf
  rw [decide_eq_false (by decide), cond_false]
  show κ (canon 18442240474082181120) = _
  congr 1
theorem law_Inf_pos (N : Nat) (κ : Fl -> Bool) : s_m_Inf N 1 κ = κ (some 9218868437227405312) := by
  unfold s_m_Inf G_m_Inf
  rw [decide_eq_true (by decide), cond_true]
  show κ (canon 9218868437227405312) = _
  congr 1
theorem word_inf (s : Bool) : Ieee.double.word s 9218868437227405312 = cond s 18442240474082181120 9218868437227405312 := by cases s <;> decide
theorem or_swap (a b : Nat) (ha : a < 9223372036854775808) (hb : b < 9223372036854775808) : bitsN .or .u64 (bitsN .or .u64 (a : Int) 9223372036854775808) (b : Int) = bitsN .or .u64 (bitsN .or .u64 (a : Int) (b : Int)) 9223372036854775808 := by
  have hor : ∀ u v : Nat, u < 18446744073709551616 -> v < 18446744073709551616 -> bitsN .or .u64 (u : Int) (v : Int) = ((u ||| v : Nat) : Int) := fun u v hu hv => by
    unfold bitsN bitsI
    simp only [Option.getD_some]
    have h64 : (2 : Nat) ^ 64 = 18446744073709551616 := by decide
    have e : ((BitVec.ofInt (IntKind.bits .u64) (u : Int)) ||| (BitVec.ofInt (IntKind.bits .u64) (v : Int))).toNat = u ||| v := by
      show ((BitVec.ofInt 64 (u : Int)) ||| (BitVec.ofInt 64 (v : Int))).toNat = _
      rw [BitVec.toNat_or, BitVec.ofInt_natCast, BitVec.ofInt_natCast, BitVec.toNat_ofNat, BitVec.toNat_ofNat, Nat.mod_eq_of_lt (by omega), Nat.mod_eq_of_lt (by omega)]
    rw [e, wrap_u64 _ (by
      have := Nat.or_lt_two_pow (n := 64) (x := u) (y := v) (by omega) (by omega)
      omega)]
  have h64 : (2 : Nat) ^ 64 = 18446744073709551616 := by decide
  have o1 := Nat.or_lt_two_pow (n := 64) (x := a) (y := 9223372036854775808) (by omega) (by omega)
  have o2 := Nat.or_lt_two_pow (n := 64) (x := a) (y := b) (by omega) (by omega)
  have c : (9223372036854775808 : Int) = ((9223372036854775808 : Nat) : Int) := rfl
  rw [c, hor a _ (by omega) (by decide), hor _ b (by omega) (by omega), hor a b (by omega) (by omega), hor _ _ (by omega) (by decide), Nat.or_assoc, Nat.or_assoc, Nat.or_comm b]
theorem law_lay {b : Nat} (hb : W64 b) {s : Bool} {M : Nat} {P : Int} (h : Ieee.double.read b = .number s M P) (hM : 4503599627370496 <= M) {E : Int} (h1 : 0 < E) (h2 : E < 2047) :
    bitsN .or .u64 (bitsN .andNot .u64 (b : Int) 9218868437227405312) (IntKind.wrap .u64 ((IntKind.wrap .u64 E) * 2 ^ 52)) = ((Ieee.double.word s (E.toNat * 4503599627370496 + (M - 4503599627370496)) : Nat) : Int) := by
  have hs := num_sign hb h
  obtain ⟨hsg, hlt, hr⟩ := read_number h
  have hf : M - 4503599627370496 = b % 4503599627370496 := by
    rcases hr with ⟨h1, rfl, rfl⟩ | ⟨h1, rfl, rfl⟩
    · omega
    · omega
  obtain ⟨e, rfl⟩ : ∃ e : Nat, E = e := ⟨E.toNat, by omega⟩
  have e1 : IntKind.wrap .u64 (IntKind.wrap .u64 (e : Int) * 2 ^ 52) = ((2 ^ 52 * e : Nat) : Int) := by
    rw [wrap_u64 e (by omega), wrap64]
    have h3 : (2 : Int) ^ 52 = 4503599627370496 := by decide
    have h4 : (2 : Nat) ^ 52 = 4503599627370496 := by decide
    rw [h3, h4]; omega
  rw [e1, andNot_mid hb, hs, hf, Int.toNat_natCast]
  have p52 : (2 : Nat) ^ 52 = 4503599627370496 := by decide
  cases s with
  | false =>
    have w0 : Ieee.double.word false 0 = 0 := by decide
    rw [w0, Nat.zero_add, bitsN_or_disj64 _ e 52 (by rw [p52]; omega) (by rw [p52]; omega), p52]
    unfold Format.word
    simp only [Bool.false_eq_true, if_false]
    rw [Nat.mul_comm 4503599627370496 e]
  | true =>
    have w0 : Ieee.double.word true 0 = 9223372036854775808 := by decide
    rw [w0]
    have hsplit : bitsN .or .u64 ((9223372036854775808 + b % 4503599627370496 : Nat) : Int) ((2 ^ 52 * e : Nat) : Int) = ((9223372036854775808 + (2 ^ 52 * e + b % 4503599627370496) : Nat) : Int) := by
      rw [<- orTop (b % 4503599627370496) (by omega), <- orTop (2 ^ 52 * e + b % 4503599627370496) (by rw [p52]; omega), <- bitsN_or_disj64 (b % 4503599627370496) e 52 (by rw [p52]; omega) (by rw [p52]; omega)]
      exact or_swap _ _ (by omega) (by rw [p52]; omega)
    rw [hsplit]
    unfold Format.word
    rw [signWeight_d]
    simp only [if_true]
    rw [p52, Nat.mul_comm 4503599627370496 e]
theorem law_Ldexp (N : Nat) {x : Fl} (hx : finF x = true) (hw : FW x) {k : Int} (hk1 : -5000 <= k) (hk2 : k <= 5000) (κ : Fl -> Bool) : sZ19 N x k κ = κ (sclF x k) := by
  obtain ⟨b, s, m, i, rfl, h⟩ := finF_num hx
  have hb := hw b rfl
  rw [sclF_num h]
  unfold sZ19 GZ19 sZ115 GZ115
  rw [feq_zero h]
  by_cases h0 : m = 0
  · subst h0
    rw [decide_eq_true rfl, cond_true, nearest_zero, mag0_word hb h]
  · rw [decide_eq_false h0, cond_false, law_IsInf_fin N hx hw]
    dsimp only
    rw [show ((false : Bool) == false) = true from rfl, cond_true, law_IsNaN, feq_refl hx, Bool.not_true, cond_false]
    obtain ⟨b', M, P, adj, h1, h2, h3, h4, h5, h6, h7, h8, h9, h10⟩ := law_normalize N hb h h0
    have he := expo h2 h3 h4
    have hM0 : M ≠ 0 := by omega
    have hP : (P + adj + k) = P + adj + k := rfl
    rw [h1, <- h10 k]
    have e0 : sZ57 N (some b') = fun k => k (b' : Int) := rfl
    rw [e0]
    dsimp only
    have hb' : b' < 18446744073709551616 := h2
    rw [and_tr (fits_ok (by omega) (by omega)), fdiv52, and_tr (fits_ok (by omega) (by omega)), and11_i _ (by omega), he, and_tr (fits_ok (by omega) (by omega)), and_tr (fits_ok (by omega) (by omega))]
    have e1 : k + adj + (P + 1075 - 1023) = P + adj + k + 52 := by omega
    rw [e1]
    generalize hQ : P + adj + k = Q
    by_cases c1 : Q + 52 < -1075
    · rw [decide_eq_true c1, cond_true, copysign_zero N h2 h3, nearest_tiny s ⟨h4, h5⟩ (by omega)]
    · rw [decide_eq_false c1, cond_false]
      by_cases c2 : Q + 52 > 1023
      · rw [decide_eq_true c2, cond_true, flt_zero h3 hM0, nearest_huge s ⟨h4, h5⟩ (by omega), word_inf]
        cases s
        · rw [cond_false, law_Inf_pos]; rfl
        · rw [cond_true, law_Inf_neg]; rfl
      · rw [decide_eq_false c2, cond_false]
        have hjump : ∀ (E : Int) (c : Nat) , 0 < E + 1023 -> E + 1023 < 2047 -> fits .i64 (E + 1023) = true := fun E c a1 a2 => fits_ok (by omega) (by omega)
        by_cases c3 : Q + 52 < -1022
        · rw [decide_eq_true c3, cond_true, and_tr (fits_ok (by omega) (by omega))]
          unfold JZ133
          rw [and_tr (fits_ok (by omega) (by omega)), law_lay h2 h3 h4 (by omega) (by omega)]
          show κ (fmul _ (canon (Int.toNat ((_ : Nat) : Int)))) = _
          rw [Int.toNat_natCast]
          have hE : (Q + 52 + 53 + 1023) = (Q + 53) + 1075 := by omega
          rw [hE]
          have hrd := read_normal s M (Q + 53) ⟨h4, h5⟩ (by omega)
          have hcn : canon (Ieee.double.word s ((Q + 53 + 1075).toNat * 4503599627370496 + (M - 4503599627370496))) = some (Ieee.double.word s ((Q + 53 + 1075).toNat * 4503599627370496 + (M - 4503599627370496))) := by
            have hn : isNaN (Ieee.double.word s ((Q + 53 + 1075).toNat * 4503599627370496 + (M - 4503599627370496))) = false := by unfold isNaN; rw [hrd]; rfl
            unfold canon; rw [hn]; rfl
          rw [hcn, fmul_w, read_tiny53, hrd]
          have e : (Datum.number false 4503599627370496 (-105)).product (.number s M (Q + 53)) = some (.number (false ^^ s) (4503599627370496 * M) (-105 + (Q + 53))) := rfl
          rw [e, Option.map_some, Bool.false_xor, write_number]
          have e5 : 4503599627370496 * M = M <<< 52 := by
            have : (2 : Nat) ^ 52 = 4503599627370496 := by decide
            rw [Nat.shiftLeft_eq, this, Nat.mul_comm]
          have e6 : (-105 + (Q + 53)) = Q - ((52 : Nat) : Int) := by omega
          rw [e5, e6, nearest_shift]
        · rw [decide_eq_false c3, cond_false]
          unfold JZ133
          rw [and_tr (fits_ok (by omega) (by omega)), law_lay h2 h3 h4 (by omega) (by omega)]
          show κ (fmul _ (canon (Int.toNat ((_ : Nat) : Int)))) = _
          rw [Int.toNat_natCast]
          have hE : (Q + 52 + 1023) = Q + 1075 := by omega
          rw [hE]
          have hrd := read_normal s M Q ⟨h4, h5⟩ (by omega)
          have hW : W64 (Ieee.double.word s ((Q + 1075).toNat * 4503599627370496 + (M - 4503599627370496))) := word_W64 s (by omega)
          have hcn : canon (Ieee.double.word s ((Q + 1075).toNat * 4503599627370496 + (M - 4503599627370496))) = some (Ieee.double.word s ((Q + 1075).toNat * 4503599627370496 + (M - 4503599627370496))) := by
            have hn : isNaN (Ieee.double.word s ((Q + 1075).toNat * 4503599627370496 + (M - 4503599627370496))) = false := by unfold isNaN; rw [hrd]; rfl
            unfold canon; rw [hn]; rfl
          rw [hcn, write_read hW hrd, one_fmul (fun c hc => by cases hc; exact hW) (finF_of hrd)]

set_option linter.unusedVariables false

theorem write_W64 (d : Datum) : W64 (Ieee.double.write d) := by
  cases d with
  | number s m i => exact nearest_W64 s m i
  | infinity s =>
    have : Ieee.double.write (.infinity s) = Ieee.double.word s 9218868437227405312 := by rw [<- infRung_d]; rfl
    rw [this]; exact word_W64 s (by decide)
  | nan s f =>
    have : Ieee.double.write (.nan s f) = Ieee.double.word s (9218868437227405312 + f % 4503599627370496) := by rw [<- infRung_d, <- binade_d]; rfl
    rw [this]; exact word_W64 s (by omega)
theorem map_W64 {o : Option Datum} : FW (o.map Ieee.double.write) := by
  intro b hb
  cases o with
  | none => cases hb
  | some d => cases hb; exact write_W64 d
theorem FW_bin {f : Nat -> Nat -> Option Nat} (hf : ∀ a b c, f a b = some c -> W64 c) (x y : Fl) : FW (fbin f x y) := by
  intro c hc
  cases x with
  | none => cases hc
  | some a => cases y with
    | none => cases hc
    | some b => exact hf a b c hc
theorem FW_fadd (x y : Fl) : FW (fadd x y) := FW_bin (fun a b c h => map_W64 c h) x y
theorem FW_fsub (x y : Fl) : FW (fsub x y) := FW_bin (fun a b c h => map_W64 c h) x y
theorem FW_fmul (x y : Fl) : FW (fmul x y) := FW_bin (fun a b c h => map_W64 c h) x y
theorem FW_fdiv (x y : Fl) : FW (fdiv x y) := FW_bin (fun a b c h => map_W64 c h) x y
theorem FW_zero : FW (some 0) := fun b h => by cases h; decide
theorem FW_absF {x : Fl} : FW (absF x) := by
  cases x with
  | none => intro c h; cases h
  | some d => exact canon_FW (n := d % 9223372036854775808) (by unfold W64; omega)

def NN (x : Fl) : Prop := ∃ b, x = some b /\ W64 b /\ ((∃ m i, Ieee.double.read b = .number false m i) \/ Ieee.double.read b = .infinity false)
theorem NN_zero : NN (some 0) := ⟨0, rfl, by decide, .inl ⟨0, -1074, read_zero⟩⟩
theorem NN_word {r : Nat} (h : r <= 9218868437227405312) : NN (some (Ieee.double.word false r)) := by
  refine ⟨_, rfl, word_W64 false (by omega), ?_⟩
  rcases read_word_le false h with e | ⟨m, i, e⟩
  · exact .inr e
  · exact .inl ⟨m, i, e⟩
theorem NN_write_num (m : Nat) (i : Int) : NN (some (Ieee.double.write (.number false m i))) := by
  rw [write_number]
  obtain ⟨r, h, hr⟩ := nearest_le false m i
  rw [h]; exact NN_word hr
theorem NN_write_inf : NN (some (Ieee.double.write (.infinity false))) := by
  have : Ieee.double.write (.infinity false) = Ieee.double.word false 9218868437227405312 := by rw [<- infRung_d]; rfl
  rw [this]; exact NN_word (by decide)
theorem NN_square {x : Fl} {b : Nat} (hx : x = some b) (h : (∃ s m i, Ieee.double.read b = .number s m i) \/ ∃ s, Ieee.double.read b = .infinity s) : NN (fmul x x) := by
  subst hx
  rw [fmul_w]
  rcases h with ⟨s, m, i, e⟩ | ⟨s, e⟩
  · rw [e]
    have : (Datum.number s m i).product (.number s m i) = some (.number (s ^^ s) (m * m) (i + i)) := rfl
    rw [this, Bool.xor_self, Option.map_some]; exact NN_write_num _ _
  · rw [e]
    have : (Datum.infinity s).product (.infinity s) = some (.infinity (s ^^ s)) := rfl
    rw [this, Bool.xor_self, Option.map_some]; exact NN_write_inf
theorem NN_sclF {x : Fl} (hx : finF x = true) (k : Int) : NN (fmul (sclF x k) (sclF x k)) := by
  obtain ⟨b, s, m, i, rfl, h⟩ := finF_num hx
  rw [sclF_num h]
  refine NN_square rfl ?_
  obtain ⟨r, hr, hle⟩ := nearest_le s m (i + k)
  rw [hr]
  rcases read_word_le s hle with e | ⟨m, i, e⟩
  · exact .inr ⟨s, e⟩
  · exact .inl ⟨s, m, i, e⟩
theorem NN_fadd {x y : Fl} (hx : NN x) (hy : NN y) : NN (fadd x y) := by
  obtain ⟨a, rfl, -, ha⟩ := hx
  obtain ⟨b, rfl, -, hb⟩ := hy
  show NN (((Ieee.double.read a).sum (Ieee.double.read b)).map Ieee.double.write)
  rcases ha with ⟨m, i, ha⟩ | ha <;> rcases hb with ⟨n, j, hb⟩ | hb <;> rw [ha, hb]
  · simp only [Datum.sum, Option.map_some]
    have h1 : signed false m (i - min i j).toNat = ((m <<< (i - min i j).toNat : Nat) : Int) := rfl
    have h2 : signed false n (j - min i j).toNat = ((n <<< (j - min i j).toNat : Nat) : Int) := rfl
    rw [h1, h2]
    generalize m <<< (i - min i j).toNat = p
    generalize n <<< (j - min i j).toNat = q
    by_cases h0 : (p : Int) + q = 0
    · rw [if_pos h0]; exact NN_write_num _ _
    · rw [if_neg h0, decide_eq_false (by omega)]; exact NN_write_num _ _
  · exact NN_write_inf
  · exact NN_write_inf
  · exact NN_write_inf
theorem NN_fsqrt {x : Fl} (hx : NN x) : NN (fsqrt x) := by
  obtain ⟨a, rfl, -, ha⟩ := hx
  show NN (((Ieee.double.read a).root (Ieee.double.fractionBits + 2)).map Ieee.double.write)
  rcases ha with ⟨m, i, ha⟩ | ha <;> rw [ha]
  · simp only [Datum.root, Bool.false_eq_true, if_false]
    split
    · exact NN_write_num _ _
    · exact NN_write_num _ _
  · exact NN_write_inf
def vl (x : Fl) : Int := match x with
  | some b => match Ieee.double.read b with
    | .number s m i => signed s m (i + 1074).toNat
    | _ => 0
  | none => 0
theorem vl_num {b : Nat} {s : Bool} {m : Nat} {i : Int} (h : Ieee.double.read b = .number s m i) : vl (some b) = signed s m (i + 1074).toNat := by unfold vl; simp only [h]
theorem signed_scale (s : Bool) (m a c : Nat) : signed s m (a + c) = signed s m a * 2 ^ c := by
  unfold signed
  rw [Nat.shiftLeft_add]
  generalize m <<< a = q
  have : ((q <<< c : Nat) : Int) = (q : Int) * 2 ^ c := by
    rw [Nat.shiftLeft_eq]; push_cast; rfl
  cases s
  · simp only [Bool.false_eq_true, if_false]; exact this
  · simp only [if_true]; rw [this, Int.neg_mul]
theorem compare_scale (x y : Int) (c : Nat) : compare (x * 2 ^ c) (y * 2 ^ c) = compare x y := by
  have hp : (0 : Int) < 2 ^ c := Int.pow_pos (by decide)
  rcases Int.lt_trichotomy x y with h | h | h
  · rw [Int.compare_eq_lt.2 h, Int.compare_eq_lt.2 (Int.mul_lt_mul_of_pos_right h hp)]
  · subst h; rw [Int.compare_eq_eq.2 rfl, Int.compare_eq_eq.2 rfl]
  · rw [Int.compare_eq_gt.2 h, Int.compare_eq_gt.2 (Int.mul_lt_mul_of_pos_right h hp)]
theorem ford_vl {x y : Fl} (hx : finF x = true) (hy : finF y = true) : ford x y = some (compare (vl x) (vl y)) := by
  obtain ⟨a, s, m, i, rfl, ha⟩ := finF_num hx
  obtain ⟨b, t, n, j, rfl, hb⟩ := finF_num hy
  have ga := place_ge ha
  have gb := place_ge hb
  show (Ieee.double.read a).order (Ieee.double.read b) = _
  rw [ha, hb, vl_num ha, vl_num hb]
  simp only [Datum.order]
  have e1 : (i + 1074).toNat = (i - min i j).toNat + (min i j + 1074).toNat := by omega
  have e2 : (j + 1074).toNat = (j - min i j).toNat + (min i j + 1074).toNat := by omega
  rw [e1, e2, signed_scale, signed_scale, compare_scale]
theorem feq_vl {x y : Fl} (hx : finF x = true) (hy : finF y = true) : feq x y = decide (vl x = vl y) := by
  unfold feq
  rw [ford_vl hx hy, Bool.eq_iff_iff, decide_eq_true_iff, beq_iff_eq, Option.some.injEq, Int.compare_eq_eq]
theorem fge_vl {x y : Fl} (hx : finF x = true) (hy : finF y = true) : fge x y = decide (vl y <= vl x) := by
  unfold fge
  rw [ford_vl hx hy, Bool.eq_iff_iff, decide_eq_true_iff, Bool.or_eq_true, beq_iff_eq, beq_iff_eq, Option.some.injEq, Option.some.injEq, Int.compare_eq_eq, Int.compare_eq_gt]
  omega
theorem fmm_vl {x y : Fl} (hx : finF x = true) (hy : finF y = true) : finF (fmm true x y) = true /\ vl (fmm true x y) = max (vl x) (vl y) /\ (fmm true x y = x \/ fmm true x y = y) := by
  have ho := ford_vl hx hy
  obtain ⟨a, s, m, i, rfl, ha⟩ := finF_num hx
  obtain ⟨b, t, n, j, rfl, hb⟩ := finF_num hy
  have ho' : Ieee.double.order a b = some (compare (vl (some a)) (vl (some b))) := ho
  have e : fmm true (some a) (some b) = (match Ieee.double.order a b with
    | none => none
    | some .lt => some (cond true b a)
    | some .gt => some (cond true a b)
    | some .eq => some (cond (Ieee.double.read a).neg (cond true b a) (cond true a b))) := rfl
  rw [e, ho']
  cases hc : compare (vl (some a)) (vl (some b)) with
  | lt =>
    have := Int.compare_eq_lt.1 hc
    exact ⟨hy, by show vl (some b) = _; omega, .inr rfl⟩
  | gt =>
    have := Int.compare_eq_gt.1 hc
    exact ⟨hx, by show vl (some a) = _; omega, .inl rfl⟩
  | eq =>
    have := Int.compare_eq_eq.1 hc
    show finF (some (cond _ b a)) = true /\ vl (some (cond _ b a)) = _ /\ (some (cond _ b a) = some a \/ some (cond _ b a) = some b)
    cases (Ieee.double.read a).neg
    · exact ⟨hx, by show vl (some a) = _; omega, .inl rfl⟩
    · exact ⟨hy, by show vl (some b) = _; omega, .inr rfl⟩
theorem fmm_FW {x y : Fl} (hx : finF x = true) (hy : finF y = true) (hwx : FW x) (hwy : FW y) : FW (fmm true x y) := by
  rcases (fmm_vl hx hy).2.2 with h | h <;> rw [h]
  · exact hwx
  · exact hwy
theorem absF_fin {x : Fl} (hx : finF x = true) (hw : FW x) : finF (absF x) = true := by
  obtain ⟨b, s, m, i, rfl, h⟩ := finF_num hx
  obtain ⟨c, hc, -, hr⟩ := absF_num (hw b rfl) h
  rw [hc]; exact finF_of hr

set_option linter.unusedVariables false

def mostF (xs : List Fl) : Nat -> Fl
  | 0 => some 0
  | n + 1 => fmm true (mostF xs n) (absF (xs.getD n none))
def FinW (xs : List Fl) : Prop := ∀ i, i < xs.length -> finF (xs.getD i none) = true /\ FW (xs.getD i none)
theorem most_fin {xs : List Fl} (h : FinW xs) : ∀ n, n <= xs.length -> finF (mostF xs n) = true /\ FW (mostF xs n) := by
  intro n
  induction n with
  | zero => intro _; exact ⟨(by decide : finF (some 0) = true), FW_zero⟩
  | succ n ih =>
    intro hn
    obtain ⟨h1, h2⟩ := ih (by omega)
    obtain ⟨h3, h4⟩ := h n (by omega)
    have h5 := absF_fin h3 h4
    exact ⟨(fmm_vl h1 h5).1, fmm_FW h1 h5 h2 FW_absF⟩
theorem lawZ100 {N : Nat} {xs : List Fl} (hN : 1000 <= N) (hl : xs.length <= 48) (k : Int -> Bool -> Bool) :
    sZ100 N xs k = cond (feq (mostF xs xs.length) (some 0)) (k 0 false) (sZ74 N (mostF xs xs.length) (fun _ nr => fits .i64 (nr - 1) && k (nr - 1) true)) := by
  unfold sZ100 GZ100
  refine iterG_eq0 (fun n => (mostF xs n, (n : Int))) xs.length rfl (by omega) (fun i hi K => ?_) (fun K => ?_)
  · simp only [st_qr_power_0, s_m_Abs, Int.toNat_natCast]
    rw [dec_true (by omega), cond_true, and_true_of (inR_of (by omega) (by omega)), and_true_of (fits_ok (by omega) (by omega))]
    rfl
  · simp only [st_qr_power_0]
    rw [dec_false (by omega), cond_false]
def sumSq (ys : List Fl) : Nat -> Fl
  | 0 => some 0
  | n + 1 => fadd (sumSq ys n) (fmul (ys.getD n none) (ys.getD n none))
def scl (xs : List Fl) (k : Int) : List Fl := xs.map fun x => sclF x k
theorem scl_length (xs : List Fl) (k : Int) : (scl xs k).length = xs.length := by simp [scl]
theorem scl_getD (xs : List Fl) (k : Int) {i : Nat} (h : i < xs.length) : (scl xs k).getD i none = sclF (xs.getD i none) k := by
  unfold scl
  rw [List.getD_eq_getElem?_getD, List.getD_eq_getElem?_getD, List.getElem?_map, List.getElem?_eq_getElem h]
  rfl
theorem take_snoc {α : Type} (ys : List α) (d : α) {i : Nat} (hi : i < ys.length) : ys.take i ++ [ys.getD i d] = ys.take (i + 1) := by
  rw [List.getD_eq_getElem?_getD, List.getElem?_eq_getElem hi, Option.getD_some, List.take_add_one, List.getElem?_eq_getElem hi]; rfl
theorem set_take {α : Type} (ys : List α) (z d : α) {i : Nat} (hi : i < ys.length) : (ys.take i ++ List.replicate (ys.length - i) z).set i (ys.getD i d) = ys.take (i + 1) ++ List.replicate (ys.length - (i + 1)) z := by
  have h1 : (ys.take i).length = i := by rw [List.length_take]; omega
  have h2 : ys.length - i = (ys.length - (i + 1)) + 1 := by omega
  rw [List.set_append_right _ _ (by omega), h1, Nat.sub_self, h2, List.replicate_succ, List.set_cons_zero, <- take_snoc ys d hi, List.append_assoc]
  rfl
theorem lawZ86 {N : Nat} {xs : List Fl} (hN : 1000 <= N) (hl : xs.length <= 48) (hf : FinW xs) {e : Int} (h1 : -4000 <= e) (h2 : e <= 4000) (k : Fl -> List Fl -> Bool) :
    sZ86 N xs e k = k (fsqrt (sumSq (scl xs (0 - e)) xs.length)) (scl xs (0 - e)) := by
  unfold sZ86 GZ86
  rw [and_true_of ((mkOk_iff _ _ _).2 (by omega)), Int.toNat_natCast]
  have hlen := scl_length xs (0 - e)
  refine iterG_eq0 (fun n => (sumSq (scl xs (0 - e)) n, (n : Int), (scl xs (0 - e)).take n ++ List.replicate ((scl xs (0 - e)).length - n) (some 0))) xs.length (by rw [hlen]; rfl) (by omega) (fun i hi K => ?_) (fun K => ?_)
  · obtain ⟨h3, h4⟩ := hf i hi
    simp only [st_qr_scaled_0, Int.toNat_natCast]
    rw [dec_true (by omega), cond_true, and_true_of (inR_of (by omega) (by omega)), and_true_of (fits_ok (by omega) (by omega)), law_Ldexp N h3 h4 (by omega) (by omega)]
    rw [<- scl_getD xs (0 - e) hi]
    have hst := set_take (scl xs (0 - e)) (some 0) none (i := i) (by omega)
    have hL : ((scl xs (0 - e)).take i ++ List.replicate ((scl xs (0 - e)).length - i) (some 0)).length = xs.length := by rw [List.length_append, List.length_take, List.length_replicate]; omega
    have hL' : ((scl xs (0 - e)).take (i + 1) ++ List.replicate ((scl xs (0 - e)).length - (i + 1)) (some 0)).length = xs.length := by rw [List.length_append, List.length_take, List.length_replicate]; omega
    simp only [hst, hL, hL']
    rw [and_true_of (inR_of (by omega) (by omega)), and_true_of (dec_true (by omega)), and_true_of (inR_of (by omega) (by omega)), and_true_of (dec_true (by omega)), and_true_of (inR_of (by omega) (by omega)), and_true_of (dec_true (by omega)), and_true_of (fits_ok (by omega) (by omega))]
    have hg : ((scl xs (0 - e)).take (i + 1) ++ List.replicate ((scl xs (0 - e)).length - (i + 1)) (some 0)).getD i none = (scl xs (0 - e)).getD i none := by
      rw [List.getD_eq_getElem?_getD, List.getD_eq_getElem?_getD, List.getElem?_append, if_pos (by rw [List.length_take]; omega), List.getElem?_take, if_pos (by omega)]
    rw [hg]
    rfl
  · simp only [st_qr_scaled_0]
    rw [dec_false (by omega), cond_false]
    have : (scl xs (0 - e)).take xs.length ++ List.replicate ((scl xs (0 - e)).length - xs.length) (some 0) = scl xs (0 - e) := by
      rw [hlen, Nat.sub_self, List.replicate_zero, List.append_nil, List.take_of_length_le (by omega)]
    rw [this]
    rfl
theorem law_Ldexp_inf (N : Nat) (k : Int) (κ : Fl -> Bool) : sZ19 N (some 9218868437227405312) k κ = κ (some 9218868437227405312) := by
  unfold sZ19 GZ19 sZ115 GZ115
  have h1 : feq (some 9218868437227405312) (some 0) = false := by decide
  rw [h1, cond_false]
  unfold sZ62 GZ62
  rw [show ((0 : Int) == 0) = true from rfl, cond_true]
  simp only [s_m_Abs]
  have h2 : fgt (absF (some 9218868437227405312)) (some 9218868437227405311) = true := by decide
  rw [h2]
  rfl
theorem inf_word {b : Nat} (hw : W64 b) (h : Ieee.double.read b = .infinity false) : b = 9218868437227405312 := by
  unfold Format.read at h
  simp only [signWeight_d, binade_d, infRung_d] at h
  unfold W64 at hw
  split at h
  · cases h
  · split at h
    · cases h
    · split at h
      · have hs : (b / 9223372036854775808 % 2 == 1) = false := by injection h
        have hs2 : b / 9223372036854775808 % 2 ≠ 1 := fun e => by rw [e] at hs; cases hs
        omega
      · cases h
theorem NN_sumSq {xs : List Fl} (hf : FinW xs) (k : Int) : ∀ n, n <= xs.length -> NN (sumSq (scl xs k) n) := by
  intro n
  induction n with
  | zero => intro _; exact NN_zero
  | succ n ih =>
    intro hn
    refine NN_fadd (ih (by omega)) ?_
    rw [scl_getD xs k (by omega)]
    exact NN_sclF (hf n (by omega)).1 k
theorem finW_of {xs : List Fl} (hw : ∀ i, i < xs.length -> FW (xs.getD i none)) (ha : allFin xs = true) : FinW xs :=
  fun i hi => ⟨allN_iff.1 ha i hi, hw i hi⟩
set_option linter.unusedVariables false

set_option linter.unusedVariables false

set_option linter.unusedVariables false

def GE1 (x : Fl) : Prop := ∃ b, x = some b /\ W64 b /\ (Ieee.double.read b = .infinity false \/ ∃ m i, Ieee.double.read b = .number false m i /\ 4503599627370496 <= m /\ m < 9007199254740992 /\ -52 <= i)
theorem log2_vl {m m' : Nat} {i i' : Int} (h0 : m' ≠ 0) (h : m' * 2 ^ (i' + 1074).toNat <= m * 2 ^ (i + 1074).toNat) (hi : -1074 <= i) (hi' : -1074 <= i') : i' + m'.log2 <= i + m.log2 := by
  have h1 := Nat.log2_self_le h0
  have h2 : m < 2 ^ (m.log2 + 1) := Nat.lt_log2_self
  have h3 : 2 ^ (m'.log2 + (i' + 1074).toNat) < 2 ^ (m.log2 + 1 + (i + 1074).toNat) := by
    rw [Nat.pow_add, Nat.pow_add]
    exact Nat.lt_of_le_of_lt (Nat.mul_le_mul_right _ h1) (Nat.lt_of_le_of_lt h (Nat.mul_lt_mul_of_pos_right h2 (Nat.two_pow_pos _)))
  have h4 := (Nat.pow_lt_pow_iff_right (by decide : 1 < 2)).1 h3
  omega
theorem vl_abs {x : Fl} (hx : finF x = true) (hw : FW x) {b : Nat} {s : Bool} {m : Nat} {i : Int} (e : x = some b) (h : Ieee.double.read b = .number s m i) : vl (absF x) = ((m * 2 ^ (i + 1074).toNat : Nat) : Int) := by
  subst e
  obtain ⟨c, hc, hcw, hcr⟩ := absF_num (hw b rfl) h
  rw [hc, vl_num hcr, <- Nat.shiftLeft_eq]; rfl
theorem most_vl {xs : List Fl} (h : FinW xs) : ∀ n, n <= xs.length -> (∀ i, i < n -> vl (absF (xs.getD i none)) <= vl (mostF xs n)) /\ (mostF xs n = some 0 \/ ∃ i, i < n /\ mostF xs n = absF (xs.getD i none)) := by
  intro n
  induction n with
  | zero => intro _; exact ⟨fun i hi => absurd hi (Nat.not_lt_zero _), .inl rfl⟩
  | succ n ih =>
    intro hn
    obtain ⟨h1, h2⟩ := ih (by omega)
    obtain ⟨h3, h4⟩ := most_fin h n (by omega)
    obtain ⟨h5, h6⟩ := h n (by omega)
    obtain ⟨-, h8, h9⟩ := fmm_vl h3 (absF_fin h5 h6)
    refine ⟨fun i hi => ?_, ?_⟩
    · show _ <= vl (fmm true (mostF xs n) (absF (xs.getD n none)))
      rw [h8]
      by_cases hin : i = n
      · subst hin; omega
      · have := h1 i (by omega); omega
    · show fmm true (mostF xs n) (absF (xs.getD n none)) = _ \/ ∃ i, _ /\ fmm true (mostF xs n) (absF (xs.getD n none)) = _
      rcases h9 with e | e
      · rw [e]
        rcases h2 with e2 | ⟨i, hi, e2⟩
        · exact .inl e2
        · exact .inr ⟨i, by omega, e2⟩
      · exact .inr ⟨n, by omega, e⟩
set_option linter.unusedVariables false

theorem small_of {N : Nat} (hN : 1000 <= N) {n : Nat} (h : n <= 48) : Small N n := ⟨by omega, by omega⟩
theorem le3 (a b c : Fl) : [a, b, c].length <= 48 := Nat.le_of_ble_eq_true rfl
theorem lawZ8 {N : Nat} (xs : List Fl) (hl : Small N xs.length) (k : Bool -> Bool) : sZ8 N xs k = k (allFin xs) := by
  unfold sZ8 GZ8
  rw [<- cond_k (allFin xs) k]
  refine (iterG_all (fun i => (i : Int)) (fun i => finF (xs.getD i none)) xs.length hl.1 (fun i hi K => ?_) (fun K => ?_) : _)
  · have h2 := hl.2
    simp only [st_quat_finite_0, Int.toNat_natCast, fin_eq]
    rw [dec_true (by omega), cond_true, and_true_of (inR_of (by omega) (by omega)), and_true_of (inR_of (by omega) (by omega)), and_true_of (fits_ok (by omega) (by omega))]
    cases finF (xs.getD i none) <;> rfl
  · simp only [st_quat_finite_0]
    rw [dec_false (by omega), cond_false]
theorem law_Finite4 {N : Nat} (hN : 1000 <= N) (a b c d : Fl) (k : Bool -> Bool) : sZ87 N a b c d k = k (allFin [a, b, c, d]) :=
  law_AllFinite _ (small_of hN (Nat.le_of_ble_eq_true rfl)) _
theorem law_good {N : Nat} (hN : 1000 <= N) (a b c d : Fl) (k : Bool -> Bool) : sZ15 N a b c d k = k (allFin [a, b, c, d]) := by
  unfold sZ15 GZ15
  rw [lawZ8 _ (small_of hN (Nat.le_of_ble_eq_true rfl))]
  cases allFin [a, b, c, d] <;> rfl
theorem law_told {N : Nat} (hN : 1000 <= N) (a b c d : Fl) (k : Fl -> Fl -> Fl -> Fl -> Int -> Bool) : sZ43 N a b c d k = cond (!allFin [a, b, c, d]) (k (some 0) (some 0) (some 0) (some 0) 5) (k a b c d 0) := by
  unfold sZ43 GZ43
  rw [law_good hN]

def dirE (a b c : Fl) : Int := cond (!allFin [a, b, c]) 4 (cond (feq a (some 0) && (feq b (some 0) && feq c (some 0))) 251 0)
theorem law_dir {N : Nat} (hN : 1000 <= N) (a b c : Fl) (k : Int -> Bool) : sZ22 N a b c k = k (dirE a b c) := by
  unfold sZ22 GZ22 dirE
  rw [law_Finite _ (small_of hN (Nat.le_of_ble_eq_true rfl))]
  cases allFin [a, b, c] <;> cases feq a (some 0) <;> cases feq b (some 0) <;> cases feq c (some 0) <;> rfl
theorem FW3 {a b c : Fl} (ha : FW a) (hb : FW b) (hc : FW c) : ∀ i, i < [a, b, c].length -> FW ([a, b, c].getD i none) := by
  intro i hi
  match i, hi with
  | 0, _ => exact ha
  | 1, _ => exact hb
  | 2, _ => exact hc
theorem FW4 {a b c d : Fl} (ha : FW a) (hb : FW b) (hc : FW c) (hd : FW d) : ∀ i, i < [a, b, c, d].length -> FW ([a, b, c, d].getD i none) := by
  intro i hi
  match i, hi with
  | 0, _ => exact ha
  | 1, _ => exact hb
  | 2, _ => exact hc
  | 3, _ => exact hd
abbrev K3 : Type := Fl -> Fl -> Fl -> Int -> Bool
set_option linter.unusedVariables false

abbrev K4 : Type := Fl -> Fl -> Fl -> Fl -> Int -> Bool
theorem unit_q {N : Nat} (hN : 1000 <= N) {a b c d : Fl} (hall : allFin [a, b, c, d] = true) (hf : FinW [a, b, c, d]) {fr : Fl} {e : Int} (h0 : feq (mostF [a, b, c, d] 4) (some 0) = false)
    (he : ∀ κ : Fl -> Int -> Bool, sZ74 N (mostF [a, b, c, d] 4) κ = κ fr e) (he1 : -1200 <= e) (he2 : e <= 1200) (κ : K4) :
    sZ34 N a b c d κ = (fun g => κ (fdiv (sclF a (1 - e)) g) (fdiv (sclF b (1 - e)) g) (fdiv (sclF c (1 - e)) g) (fdiv (sclF d (1 - e)) g) 0) (fsqrt (fadd (fadd (fadd (fadd (some 0) (fmul (sclF a (1 - e)) (sclF a (1 - e)))) (fmul (sclF b (1 - e)) (sclF b (1 - e)))) (fmul (sclF c (1 - e)) (sclF c (1 - e)))) (fmul (sclF d (1 - e)) (sclF d (1 - e))))) := by
  obtain ⟨a1, a2⟩ := hf 0 (Nat.le_of_ble_eq_true rfl)
  obtain ⟨b1, b2⟩ := hf 1 (Nat.le_of_ble_eq_true rfl)
  obtain ⟨c1, c2⟩ := hf 2 (Nat.le_of_ble_eq_true rfl)
  obtain ⟨d1, d2⟩ := hf 3 (Nat.le_of_ble_eq_true rfl)
  have hk : fits .i64 (1 - e) = true := fits_ok (by omega) (by omega)
  unfold sZ34 GZ34
  rw [law_good hN, hall, Bool.not_true, cond_false]
  unfold sZ91 GZ91
  simp only [s_m_Abs]
  have hm : fmm true (fmm true (fmm true (fmm true (some 0) (absF a)) (absF b)) (absF c)) (absF d) = mostF [a, b, c, d] 4 := rfl
  rw [hm, h0, cond_false, he, hk, Bool.true_and]
  refine (law_Ldexp N a1 a2 (by omega) (by omega) _).trans ?_
  rw [Bool.true_and]
  refine (law_Ldexp N b1 b2 (by omega) (by omega) _).trans ?_
  rw [Bool.true_and]
  refine (law_Ldexp N c1 c2 (by omega) (by omega) _).trans ?_
  rw [Bool.true_and]
  refine (law_Ldexp N d1 d2 (by omega) (by omega) _).trans ?_
  rfl
set_option linter.unusedVariables false
set_option maxRecDepth 4000

def jq (N : Nat) (a b c d : Fl) (κ : K4) : Bool := cond (!allFin [a, b, c, d]) (κ (some 0) (some 0) (some 0) (some 0) 5) (sZ34 N a b c d κ)
theorem jq_eq {N : Nat} (hN : 1000 <= N) (m0 m1 : Int) (m2 : List Fl) (a b c d : Fl) (κ : K4) : JZ129 N (sZ25 N) (sZ12 N) (sZ8 N) (sZ43 N) (sZ34 N) m0 m1 m2 a b c d κ = jq N a b c d κ := by
  unfold JZ129 jq
  rw [law_told hN]
  cases allFin [a, b, c, d] <;> rfl
theorem nine_chk {a0 a1 a2 a3 a4 a5 a6 a7 a8 : Fl} (h : allFin [a0, a1, a2, a3, a4, a5, a6, a7, a8] = true) : chk 3 3 [a0, a1, a2, a3, a4, a5, a6, a7, a8] = 0 := chk_zero.2 ⟨by decide, rfl, h⟩
theorem rd00 (N : Nat) (a0 a1 a2 a3 a4 a5 a6 a7 a8 : Fl) (κ : Fl -> Bool) : sZ12 N 0 0 3 3 [a0, a1, a2, a3, a4, a5, a6, a7, a8] κ = κ a0 := by kernel_rfl
theorem rd11 (N : Nat) (a0 a1 a2 a3 a4 a5 a6 a7 a8 : Fl) (κ : Fl -> Bool) : sZ12 N 1 1 3 3 [a0, a1, a2, a3, a4, a5, a6, a7, a8] κ = κ a4 := by kernel_rfl
theorem rd22 (N : Nat) (a0 a1 a2 a3 a4 a5 a6 a7 a8 : Fl) (κ : Fl -> Bool) : sZ12 N 2 2 3 3 [a0, a1, a2, a3, a4, a5, a6, a7, a8] κ = κ a8 := by kernel_rfl
theorem rd21 (N : Nat) (a0 a1 a2 a3 a4 a5 a6 a7 a8 : Fl) (κ : Fl -> Bool) : sZ12 N 2 1 3 3 [a0, a1, a2, a3, a4, a5, a6, a7, a8] κ = κ a7 := by kernel_rfl
theorem rd12 (N : Nat) (a0 a1 a2 a3 a4 a5 a6 a7 a8 : Fl) (κ : Fl -> Bool) : sZ12 N 1 2 3 3 [a0, a1, a2, a3, a4, a5, a6, a7, a8] κ = κ a5 := by kernel_rfl
theorem rd02 (N : Nat) (a0 a1 a2 a3 a4 a5 a6 a7 a8 : Fl) (κ : Fl -> Bool) : sZ12 N 0 2 3 3 [a0, a1, a2, a3, a4, a5, a6, a7, a8] κ = κ a2 := by kernel_rfl
theorem rd20 (N : Nat) (a0 a1 a2 a3 a4 a5 a6 a7 a8 : Fl) (κ : Fl -> Bool) : sZ12 N 2 0 3 3 [a0, a1, a2, a3, a4, a5, a6, a7, a8] κ = κ a6 := by kernel_rfl
theorem rd10 (N : Nat) (a0 a1 a2 a3 a4 a5 a6 a7 a8 : Fl) (κ : Fl -> Bool) : sZ12 N 1 0 3 3 [a0, a1, a2, a3, a4, a5, a6, a7, a8] κ = κ a3 := by kernel_rfl
theorem rd01 (N : Nat) (a0 a1 a2 a3 a4 a5 a6 a7 a8 : Fl) (κ : Fl -> Bool) : sZ12 N 0 1 3 3 [a0, a1, a2, a3, a4, a5, a6, a7, a8] κ = κ a1 := by kernel_rfl
theorem allFin_one {N : Nat} (hN : 1000 <= N) (x : Fl) (k : Bool -> Bool) : sZ8 N [x] k = k (finF x) := by
  rw [lawZ8 [x] (small_of hN (Nat.le_of_ble_eq_true rfl))]
  have : allFin [x] = finF x := by
    show (allN _ 1) = _
    rw [Bool.eq_iff_iff, allN_iff]
    constructor
    · intro h; exact h 0 (by decide)
    · intro h i hi
      have : i = 0 := by omega
      subst this; exact h
  rw [this]
theorem from_q {N : Nat} (hN : 1000 <= N) {a0 a1 a2 a3 a4 a5 a6 a7 a8 : Fl} (h : allFin [a0, a1, a2, a3, a4, a5, a6, a7, a8] = true) {t : Fl} (ht : (fadd (fadd a0 a4) a8) = t) (κ : K4) : sZ75 N 3 3 [a0, a1, a2, a3, a4, a5, a6, a7, a8] κ = cond (!finF t) (κ (some 0) (some 0) (some 0) (some 0) 5) (cond (feq (fmm true (fmm true (fmm true t a0) a4) a8) t) (jq N (fadd (some 4607182418800017408) t) (fsub a7 a5) (fsub a2 a6) (fsub a3 a1) κ) (cond (feq (fmm true (fmm true (fmm true t a0) a4) a8) a0) (jq N (fsub a7 a5) (fsub (fsub (fadd (some 4607182418800017408) a0) a4) a8) (fadd a1 a3) (fadd a2 a6) κ) (cond (feq (fmm true (fmm true (fmm true t a0) a4) a8) a4) (jq N (fsub a2 a6) (fadd a1 a3) (fsub (fadd (fsub (some 4607182418800017408) a0) a4) a8) (fadd a5 a7) κ) (jq N (fsub a3 a1) (fadd a2 a6) (fadd a5 a7) (fadd (fsub (fsub (some 4607182418800017408) a0) a4) a8) κ)))) := by
  unfold sZ75 GZ75
  rw [law_Check 3 3 _ (small_of hN (Nat.le_of_ble_eq_true rfl)), nine_chk h]
  rw [show ((0 : Int) != 0) = false from rfl, cond_false, show (((3 : Int) != 3) == false) = true from rfl, cond_true, show ((3 : Int) != 3) = false from rfl, cond_false]
  rw [rd00, rd11, rd22, ht, allFin_one hN]
  cases finF t
  · rfl
  · rw [Bool.not_true, cond_false, cond_false]
    rw [rd21, rd12, rd02, rd20, rd10, rd01, rd01, rd10, rd02, rd20, rd12, rd21]
    simp only [jq_eq hN]
set_option linter.unusedVariables false
set_option maxRecDepth 4000

theorem inf_abs {b : Nat} (hb : W64 b) {s : Bool} (h : Ieee.double.read b = .infinity s) : absF (some b) = some 9218868437227405312 := by
  unfold Format.read at h
  simp only [signWeight_d, binade_d, infRung_d] at h
  unfold W64 at hb
  split at h
  · cases h
  · split at h
    · cases h
    · split at h
      · rename_i h1 h2 h3
        show canon (b % 9223372036854775808) = _
        have : b % 9223372036854775808 = 9218868437227405312 := by omega
        rw [this]; decide
      · cases h
theorem law_StOf {N : Nat} {x : Fl} (hw : FW x) (o : Bool) (k : Bool -> Bool) : sZ48 N x o k = k (o || !finF x) := by
  unfold sZ48 GZ48
  cases hf : finF x with
  | true => rw [feq_refl hf, law_IsInf_fin N hf hw]; cases o <;> rfl
  | false =>
    rw [Bool.not_false, Bool.or_true]
    cases x with
    | none => rfl
    | some b =>
      cases hr : Ieee.double.read b with
      | number s m i => rw [finF_of hr] at hf; cases hf
      | nan s f =>
        have : feq (some b) (some b) = false := by rw [feq_w, hr]; rfl
        rw [this]; rfl
      | infinity s =>
        have h1 : feq (some b) (some b) = true := by rw [feq_w, hr]; cases s <;> rfl
        rw [h1]
        show sZ62 N (some b) 0 _ = _
        unfold sZ62 GZ62
        rw [show ((0 : Int) == 0) = true from rfl, cond_true]
        simp only [s_m_Abs]
        rw [inf_abs (hw b rfl) hr]
        have h2 : fgt (some 9218868437227405312) (some 9218868437227405311) = true := by decide
        rw [h2, cond_true]
theorem law_Sum (N : Nat) (x y : Fl) (o : Bool) (k : Bool -> Bool) : sZ48 N (fadd x y) o k = k (o || !finF (fadd x y)) := law_StOf (FW_fadd x y) o k
theorem law_Mul (N : Nat) (x y : Fl) (o : Bool) (k : Fl -> Bool -> Bool) : sZ39 N x y o k = k (fmul x y) (o || !finF (fmul x y)) := by
  unfold sZ39 GZ39
  rw [law_StOf (FW_fmul x y)]
def ent (x u y v z w : Fl) : Fl := fadd (fadd (fmul x u) (fmul y v)) (fmul z w)
def ovr (o : Bool) (x u y v z w : Fl) : Bool := ((((o || !finF (fmul x u)) || !finF (fmul y v)) || !finF (fadd (fmul x u) (fmul y v))) || !finF (fmul z w)) || !finF (ent x u y v z w)
def ovrs (x0 x1 x2 x3 x4 x5 x6 x7 x8 x9 x10 x11 x12 x13 x14 x15 x16 x17 : Fl) : Bool := (ovr (ovr (ovr (ovr (ovr (ovr (ovr (ovr (ovr false x0 x9 x3 x12 x6 x15) x0 x10 x3 x13 x6 x16) x0 x11 x3 x14 x6 x17) x1 x9 x4 x12 x7 x15) x1 x10 x4 x13 x7 x16) x1 x11 x4 x14 x7 x17) x2 x9 x5 x12 x8 x15) x2 x10 x5 x13 x8 x16) x2 x11 x5 x14 x8 x17)
def ents (x0 x1 x2 x3 x4 x5 x6 x7 x8 x9 x10 x11 x12 x13 x14 x15 x16 x17 : Fl) : List Fl := [ent x0 x9 x3 x12 x6 x15, ent x0 x10 x3 x13 x6 x16, ent x0 x11 x3 x14 x6 x17, ent x1 x9 x4 x12 x7 x15, ent x1 x10 x4 x13 x7 x16, ent x1 x11 x4 x14 x7 x17, ent x2 x9 x5 x12 x8 x15, ent x2 x10 x5 x13 x8 x16, ent x2 x11 x5 x14 x8 x17]
def chQ (N : Nat) (x0 x1 x2 x3 x4 x5 x6 x7 x8 x9 x10 x11 x12 x13 x14 x15 x16 x17 : Fl) (κ : K4) : Bool := (sZ39 N x0 x9 false (fun (x18 : Fl) (cr : Bool) => (sZ39 N x3 x12 cr (fun (x19 : Fl) (cr_1 : Bool) => (sZ48 N (fadd x18 x19) cr_1 (fun (cr_2 : Bool) => (sZ39 N x6 x15 cr_2 (fun (x20 : Fl) (cr_3 : Bool) => (sZ48 N (fadd (fadd x18 x19) x20) cr_3 (fun (cr_4 : Bool) => (sZ39 N x0 x10 cr_4 (fun (x21 : Fl) (cr_5 : Bool) => (sZ39 N x3 x13 cr_5 (fun (x22 : Fl) (cr_6 : Bool) => (sZ48 N (fadd x21 x22) cr_6 (fun (c7 : Bool) => (sZ39 N x6 x16 c7 (fun (x23 : Fl) (c8 : Bool) => (sZ48 N (fadd (fadd x21 x22) x23) c8 (fun (c9 : Bool) => (sZ39 N x0 x11 c9 (fun (x24 : Fl) (c10 : Bool) => (sZ39 N x3 x14 c10 (fun (x25 : Fl) (c11 : Bool) => (sZ48 N (fadd x24 x25) c11 (fun (c12 : Bool) => (sZ39 N x6 x17 c12 (fun (x26 : Fl) (c13 : Bool) => (sZ48 N (fadd (fadd x24 x25) x26) c13 (fun (c14 : Bool) => (sZ39 N x1 x9 c14 (fun (x27 : Fl) (c15 : Bool) => (sZ39 N x4 x12 c15 (fun (x28 : Fl) (c16 : Bool) => (sZ48 N (fadd x27 x28) c16 (fun (c17 : Bool) => (sZ39 N x7 x15 c17 (fun (x29 : Fl) (c18 : Bool) => (sZ48 N (fadd (fadd x27 x28) x29) c18 (fun (c19 : Bool) => (sZ39 N x1 x10 c19 (fun (x30 : Fl) (cr_20 : Bool) => (sZ39 N x4 x13 cr_20 (fun (x31 : Fl) (c21 : Bool) => (sZ48 N (fadd x30 x31) c21 (fun (cr_22 : Bool) => (sZ39 N x7 x16 cr_22 (fun (x32 : Fl) (cr_23 : Bool) => (sZ48 N (fadd (fadd x30 x31) x32) cr_23 (fun (cr_24 : Bool) => (sZ39 N x1 x11 cr_24 (fun (x33 : Fl) (c25 : Bool) => (sZ39 N x4 x14 c25 (fun (x34 : Fl) (c26 : Bool) => (sZ48 N (fadd x33 x34) c26 (fun (c27 : Bool) => (sZ39 N x7 x17 c27 (fun (x35 : Fl) (c28 : Bool) => (sZ48 N (fadd (fadd x33 x34) x35) c28 (fun (c29 : Bool) => (sZ39 N x2 x9 c29 (fun (x36 : Fl) (c30 : Bool) => (sZ39 N x5 x12 c30 (fun (x37 : Fl) (c31 : Bool) => (sZ48 N (fadd x36 x37) c31 (fun (c32 : Bool) => (sZ39 N x8 x15 c32 (fun (x38 : Fl) (c33 : Bool) => (sZ48 N (fadd (fadd x36 x37) x38) c33 (fun (c34 : Bool) => (sZ39 N x2 x10 c34 (fun (x39 : Fl) (c35 : Bool) => (sZ39 N x5 x13 c35 (fun (x40 : Fl) (c36 : Bool) => (sZ48 N (fadd x39 x40) c36 (fun (c37 : Bool) => (sZ39 N x8 x16 c37 (fun (x41 : Fl) (c38 : Bool) => (sZ48 N (fadd (fadd x39 x40) x41) c38 (fun (c39 : Bool) => (sZ39 N x2 x11 c39 (fun (x42 : Fl) (c40 : Bool) => (sZ39 N x5 x14 c40 (fun (x43 : Fl) (c41 : Bool) => (sZ48 N (fadd x42 x43) c41 (fun (c42 : Bool) => (sZ39 N x8 x17 c42 (fun (x44 : Fl) (c43 : Bool) => (sZ48 N (fadd (fadd x42 x43) x44) c43 (fun (c44 : Bool) => (sZ83 N c44 (cond c44 (κ (some 0) (some 0) (some 0) (some 0) 5) (sZ75 N 3 3 ((((((((([] ++ [(fadd (fadd x18 x19) x20)]) ++ [(fadd (fadd x21 x22) x23)]) ++ [(fadd (fadd x24 x25) x26)]) ++ [(fadd (fadd x27 x28) x29)]) ++ [(fadd (fadd x30 x31) x32)]) ++ [(fadd (fadd x33 x34) x35)]) ++ [(fadd (fadd x36 x37) x38)]) ++ [(fadd (fadd x39 x40) x41)]) ++ [(fadd (fadd x42 x43) x44)]) (fun (x45 : Fl) (x46 : Fl) (x47 : Fl) (x48 : Fl) (n6 : Int) => (κ x45 x46 x47 x48 n6)))))))))))))))))))))))))))))))))))))))))))))))))))))))))))))))))))))))))))))))))))))))))))))))
theorem chQ_eq (N : Nat) (x0 x1 x2 x3 x4 x5 x6 x7 x8 x9 x10 x11 x12 x13 x14 x15 x16 x17 : Fl) (κ : K4) : chQ N x0 x1 x2 x3 x4 x5 x6 x7 x8 x9 x10 x11 x12 x13 x14 x15 x16 x17 κ = cond (ovrs x0 x1 x2 x3 x4 x5 x6 x7 x8 x9 x10 x11 x12 x13 x14 x15 x16 x17) (κ (some 0) (some 0) (some 0) (some 0) 5) (sZ75 N 3 3 (ents x0 x1 x2 x3 x4 x5 x6 x7 x8 x9 x10 x11 x12 x13 x14 x15 x16 x17) κ) := by
  unfold chQ
  refine (law_Mul N _ _ _ _).trans ?_
  refine (law_Mul N _ _ _ _).trans ?_
  refine (law_Sum N _ _ _ _).trans ?_
  refine (law_Mul N _ _ _ _).trans ?_
  refine (law_Sum N _ _ _ _).trans ?_
  refine (law_Mul N _ _ _ _).trans ?_
  refine (law_Mul N _ _ _ _).trans ?_
  refine (law_Sum N _ _ _ _).trans ?_
  refine (law_Mul N _ _ _ _).trans ?_
  refine (law_Sum N _ _ _ _).trans ?_
  refine (law_Mul N _ _ _ _).trans ?_
  refine (law_Mul N _ _ _ _).trans ?_
  refine (law_Sum N _ _ _ _).trans ?_
  refine (law_Mul N _ _ _ _).trans ?_
  refine (law_Sum N _ _ _ _).trans ?_
  refine (law_Mul N _ _ _ _).trans ?_
  refine (law_Mul N _ _ _ _).trans ?_
  refine (law_Sum N _ _ _ _).trans ?_
  refine (law_Mul N _ _ _ _).trans ?_
  refine (law_Sum N _ _ _ _).trans ?_
  refine (law_Mul N _ _ _ _).trans ?_
  refine (law_Mul N _ _ _ _).trans ?_
  refine (law_Sum N _ _ _ _).trans ?_
  refine (law_Mul N _ _ _ _).trans ?_
  refine (law_Sum N _ _ _ _).trans ?_
  refine (law_Mul N _ _ _ _).trans ?_
  refine (law_Mul N _ _ _ _).trans ?_
  refine (law_Sum N _ _ _ _).trans ?_
  refine (law_Mul N _ _ _ _).trans ?_
  refine (law_Sum N _ _ _ _).trans ?_
  refine (law_Mul N _ _ _ _).trans ?_
  refine (law_Mul N _ _ _ _).trans ?_
  refine (law_Sum N _ _ _ _).trans ?_
  refine (law_Mul N _ _ _ _).trans ?_
  refine (law_Sum N _ _ _ _).trans ?_
  refine (law_Mul N _ _ _ _).trans ?_
  refine (law_Mul N _ _ _ _).trans ?_
  refine (law_Sum N _ _ _ _).trans ?_
  refine (law_Mul N _ _ _ _).trans ?_
  refine (law_Sum N _ _ _ _).trans ?_
  refine (law_Mul N _ _ _ _).trans ?_
  refine (law_Mul N _ _ _ _).trans ?_
  refine (law_Sum N _ _ _ _).trans ?_
  refine (law_Mul N _ _ _ _).trans ?_
  refine (law_Sum N _ _ _ _).trans ?_
  rfl
theorem law_awake {N : Nat} (hN : 1000 <= N) (k : Bool -> Bool) : sZ55 N k = k true := by
  obtain ⟨M, rfl⟩ : ∃ M, N = M + 1000 := ⟨N - 1000, by omega⟩
  kernel_rfl
set_option linter.unusedVariables false

theorem finF_iff (b : Nat) : finF (some b) = decide (b % 9223372036854775808 < 9218868437227405312) := by
  unfold finF Format.read
  simp only [signWeight_d, binade_d, infRung_d]
  by_cases h1 : b % 9223372036854775808 < 4503599627370496
  · rw [if_pos h1, decide_eq_true (by omega)]; rfl
  · rw [if_neg h1]
    by_cases h2 : b % 9223372036854775808 < 9218868437227405312
    · rw [if_pos h2, decide_eq_true h2]; rfl
    · rw [if_neg h2, decide_eq_false h2]
      split <;> rfl
end Go.Proofs.YtgngdkjghdohiaaGreat
end
section

end
