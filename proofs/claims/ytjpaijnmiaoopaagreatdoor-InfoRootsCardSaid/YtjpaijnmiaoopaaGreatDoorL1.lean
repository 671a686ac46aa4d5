/-
  PURE: laws of the seat's functions, taken over from another seat of mine.
  Conditions: none.
-/
import Derived.Test.YtjpaijnmiaoopaaGreatDoorGp
import Derived.Test.YtjpaijnmiaoopaaGreatDoorBig
import Derived.Test.YtjpaijnmiaoopaaGreatDoorFlA
namespace Go.Proofs.YtjpaijnmiaoopaaGreatDoor
open Go Go.Mach Ieee
set_option linter.unusedVariables false
set_option linter.unusedVariables false
theorem and_tr {a c : Bool} (h : a = true) : (a && c) = c := by rw [h]; rfl
theorem wrap64 (z : Int) : IntKind.wrap .u64 z = z % 18446744073709551616 := by rfl
theorem wrap32 (z : Int) : IntKind.wrap .u32 z = z % 4294967296 := by rfl
theorem fdiv32 (z : Int) : Int.fdiv z (2 ^ 32) = z / 4294967296 := by
 rw [Int.fdiv_eq_ediv_of_nonneg _ (by decide)]; rfl
theorem iterG_from0 {σ : Type} {step : σ -> (σ -> Bool) -> Bool} {s : σ} (C : Nat -> σ) (n : Nat) {N : Nat} (h0 : s = C 0) (hn : n < N) {out : Bool} (hs : ∀ i, i < n -> ∀ K : σ -> Bool, step (C i) K = K (C (i + 1))) (hx : ∀ K, step (C n) K = out) : iterG N step s = out := by
 subst h0; exact iterG_eq C n hn hs hx
def cutLen (b : List Int) : Nat -> Nat
 | 0 => 0
 | n + 1 => if b.getD n 0 = 0 then cutLen b n else n + 1
theorem cutLen_succ (b : List Int) (n : Nat) : cutLen b (n + 1) = if b.getD n 0 = 0 then cutLen b n else n + 1 := rfl
theorem cutLen_le (b : List Int) : ∀ n, cutLen b n <= n
 | 0 => Nat.le_refl _
 | n + 1 => by unfold cutLen; split; exact Nat.le_succ_of_le (cutLen_le b n); exact Nat.le_refl _
theorem getD_zero_of {b : List Int} {i : Nat} (h : b.length <= i) : b.getD i 0 = 0 := by
 rw [List.getD_eq_getElem?_getD, List.getElem?_eq_none h]; rfl
theorem mval_take_all {m : List Int} (i : Nat) : mval (m.take (i + 1)) = mval (m.take i) + 4294967296 ^ i * (m.getD i 0).toNat := by
 by_cases h : i < m.length
 ·exact mval_take_succ h
 ·rw [getD_zero_of (by omega), List.take_of_length_le (by omega), List.take_of_length_le (by omega)]; simp
theorem cutLen_mval (b : List Int) : ∀ n, mval (b.take (cutLen b n)) = mval (b.take n)
 | 0 => rfl
 | n + 1 => by
  unfold cutLen
  split
  ·rename_i h
   rw [cutLen_mval b n, mval_take_all, h]; simp
  ·rfl
theorem getLast?_take {b : List Int} {n : Nat} (h : n < b.length) : (b.take (n + 1)).getLast? = some (b.getD n 0) := by
 rw [List.take_succ_eq_append_getElem h, List.getLast?_append, List.getD_eq_getElem?_getD, List.getElem?_eq_getElem h]
 simp
theorem cutLen_last (b : List Int) : ∀ n, n <= b.length -> ∀ x, (b.take (cutLen b n)).getLast? = some x -> x ≠ 0
 | 0, _, x, h => by simp [cutLen] at h
 | n + 1, hn, x, h => by
  unfold cutLen at h
  split at h
  ·exact cutLen_last b n (by omega) x h
  ·rename_i h0
   rw [getLast?_take (by omega)] at h
   cases h; exact h0
theorem take_cutLen {b : List Int} (hb : InW b) : b.take (cutLen b b.length) = digs (mval b) := by
 have h1 := cutLen_mval b b.length
 rw [List.take_length] at h1
 rw [<- h1, digs_mval (hb.take _) (cutLen_last b b.length (Nat.le_refl _))]
theorem law_cut_w {N : Nat} (b : List Int) (hN : b.length < N) (hs : b.length < 9223372036854775807) (k : Nat -> Bool) : sQ9 N b k = k (cutLen b b.length) := by
 unfold sQ9 GQ9
 have key : ∀ n, n <= b.length -> ∀ M, n < M -> iterG M (stQ105 N 0 b fun m => k m) n = k (cutLen b n) := by
  intro n
  induction n with
  | zero =>
   intro _ M hM
   cases M with
   | zero => omega
   | succ M =>
    show stQ105 N 0 b _ 0 _ = _
    simp [stQ105, cutLen]
  | succ n ih =>
   intro hn M hM
   cases M with
   | zero => omega
   | succ M =>
    show stQ105 N 0 b _ (n + 1) (iterG M _) = _
    have e : Int.toNat (((n + 1 : Nat) : Int) - 1) = n := by omega
    simp only [stQ105, e, Nat.zero_add, Nat.sub_zero]
    rw [decide_eq_true (by omega : ((n + 1 : Nat) : Int) > 0), and_tr (fits_ok (by omega) (by omega)), and_tr (inR_of (by omega) (by omega)), and_tr (decide_eq_true (by omega)), and_tr (fits_ok (by omega) (by omega)), and_tr (decide_eq_true (by omega)), ih (by omega) M (by omega)]
    rw [cutLen_succ]
    by_cases h0 : b.getD n 0 = 0
    ·have : (b.getD n 0 == 0) = true := by simpa using h0
     rw [this, if_pos h0]; rfl
    ·have : (b.getD n 0 == 0) = false := by simpa using h0
     rw [this, if_neg h0]; rfl
 exact key b.length (Nat.le_refl _) N hN
theorem law_cut {N : Nat} (m : List Int) (hm : InW m) (hN : m.length < N) (hs : m.length < 9223372036854775807) (k : List Int -> Bool) : sQ87 N m k = k (digs (mval m)) := by
 unfold sQ87 GQ87
 have key : ∀ n, n < 9223372036854775807 -> ∀ (l : List Int), l.length = n -> InW l -> ∀ M, n < M -> iterG M (st_z00_cut_0 N fun m_2 => k m_2) l = k (digs (mval l)) := by
  intro n
  induction n with
  | zero =>
   intro _ l hl _ M hM
   cases M with
   | zero => omega
   | succ M =>
    have : l = [] := List.length_eq_zero_iff.1 hl
    subst this
    show st_z00_cut_0 N _ [] _ = _
    simp [st_z00_cut_0, mval, digs_zero]
  | succ n ih =>
   intro hn l hl hw M hM
   cases M with
   | zero => omega
   | succ M =>
    show st_z00_cut_0 N _ l (iterG M _) = _
    have e : Int.toNat ((l.length : Int) - 1) = n := by omega
    simp only [st_z00_cut_0, e, List.drop_zero]
    rw [decide_eq_true (by omega : (l.length : Int) > 0), and_tr (fits_ok (by omega) (by omega)), and_tr (inR_of (by omega) (by omega)), and_tr (fits_ok (by omega) (by omega)), and_tr (decide_eq_true (by omega)), ih (by omega) (l.take n) (by simp; omega) (hw.take n) M (by omega)]
    have e2 := mval_take_all (m := l) n
    rw [List.take_of_length_le (by omega)] at e2
    by_cases h0 : l.getD n 0 = 0
    ·have : (l.getD n 0 == 0) = true := by simpa using h0
     rw [this]
     rw [h0] at e2
     simp at e2
     rw [e2]; rfl
    ·have : (l.getD n 0 == 0) = false := by simpa using h0
     rw [this, digs_mval hw (fun x hx => by
      have := getLast?_take (b := l) (n := n) (by omega)
      rw [List.take_of_length_le (by omega)] at this
      rw [this] at hx; cases hx; exact h0)]
     rfl
 exact key m.length hs m rfl hm N hN
theorem law_cut_take {N : Nat} (b : List Int) (hb : InW b) (hN : b.length < N) (hs : b.length < 9223372036854775807) (k : List Int -> Bool) :
  (sQ9 N b fun l => (decide (0 + l <= b.length)) && k (List.take l (List.drop 0 b))) = k (digs (mval b)) := by
 rw [law_cut_w b hN hs, List.drop_zero, take_cutLen hb]
 have := cutLen_le b b.length
 rw [decide_eq_true (by omega)]; rfl
def Short (N : Nat) (l : List Int) : Prop := l.length + 2 < N /\ l.length <= 17592186044416
theorem div_pow_add (T A i : Nat) : (T + 4294967296 ^ i * A) / 4294967296 ^ i = T / 4294967296 ^ i + A := Nat.add_mul_div_left _ _ (Nat.pow_pos (by decide))
theorem mval_split (m : List Int) (i : Nat) : mval m = mval (m.take i) + 4294967296 ^ (m.take i).length * mval (m.drop i) := by
 rw [<- mval_append, List.take_append_drop]
theorem mval_split_ge (m : List Int) (i : Nat) : ∃ R, mval m = mval (m.take i) + 4294967296 ^ i * R := by
 by_cases h : i <= m.length
 ·refine ⟨mval (m.drop i), ?_⟩
  have := mval_split m i
  rwa [List.length_take, Nat.min_eq_left h] at this
 ·exact ⟨0, by rw [List.take_of_length_le (by omega)]; simp⟩
theorem mval_take_lt {m : List Int} (h : InW m) (i : Nat) : mval (m.take i) < 4294967296 ^ i := by
 have h1 := mval_lt (h.take i)
 have h2 : (m.take i).length <= i := by simp; omega
 exact Nat.lt_of_lt_of_le h1 (Nat.pow_le_pow_right (by decide) h2)
theorem digit_of {S T R i : Nat} (h : S = T + 4294967296 ^ (i + 1) * R) : S / 4294967296 ^ i % 4294967296 = T / 4294967296 ^ i % 4294967296 := by
 rw [h, Nat.pow_succ, Nat.mul_assoc, div_pow_add, Nat.add_mul_mod_self_left]
theorem plus_loop {N : Nat} (a b : List Int) (ha : InW a) (hb : InW b) (hl : b.length <= a.length) (hN : Short N a) (k : List Int -> Bool) :
  iterG N (st_z00_plus_0 N (sQ9 N) a b fun carry out => (inR (a.length : Nat) out.length) && ((decide ((Int.toNat (a.length : Nat)) < out.length)) &&
   (sQ9 N (List.set out (Int.toNat (a.length : Nat)) (IntKind.wrap .u32 carry)) fun mr_1 => (decide ((0 + mr_1) <= (List.length (List.set out (Int.toNat (a.length : Nat)) (IntKind.wrap .u32 carry))))) && k (List.take mr_1 (List.drop 0 (List.set out (Int.toNat (a.length : Nat)) (IntKind.wrap .u32 carry)))))))
   (0, 0, List.replicate (a.length + 1) 0) = k (digs (mval a + mval b)) := by
 obtain ⟨hN1, hN2⟩ := hN
 let S := mval a + mval b
 let T := fun i => mval (a.take i) + mval (b.take i)
 refine iterG_from0 (fun i => (((T i / 4294967296 ^ i : Nat) : Int), (i : Int), dl S i ++ List.replicate (a.length + 1 - i) 0)) a.length (by simp [T, mval, dl]) (by omega) (fun i hi K => ?_) (fun K => ?_)
 ·have hx := ha.at (i := i)
  have hy := hb.at (i := i)
  have hT : T (i + 1) = T i + 4294967296 ^ i * ((a.getD i 0).toNat + (b.getD i 0).toNat) := by
   simp only [T, mval_take_all, Nat.mul_add]; omega
  have hq : T (i + 1) / 4294967296 ^ i = T i / 4294967296 ^ i + ((a.getD i 0).toNat + (b.getD i 0).toNat) := by rw [hT, div_pow_add]
  have hc : T i / 4294967296 ^ i <= 1 := by
   have h1 := mval_take_lt ha i
   have h2 := mval_take_lt hb i
   have h3 : T i < 4294967296 ^ i * 2 := by simp only [T]; omega
   have := (Nat.div_lt_iff_lt_mul (Nat.pow_pos (n := i) (by decide : 0 < 4294967296))).2 (by rw [Nat.mul_comm]; exact h3 : T i < 2 * 4294967296 ^ i)
   omega
  have hdiv : T (i + 1) / 4294967296 ^ (i + 1) = T (i + 1) / 4294967296 ^ i / 4294967296 := by rw [Nat.pow_succ, Nat.div_div_eq_div_mul]
  have hdig : S / 4294967296 ^ i % 4294967296 = T (i + 1) / 4294967296 ^ i % 4294967296 := by
   obtain ⟨R1, h1⟩ := mval_split_ge a (i + 1)
   obtain ⟨R2, h2⟩ := mval_split_ge b (i + 1)
   refine digit_of (R := R1 + R2) ?_
   simp only [S, T]
   rw [Nat.mul_add]; omega
  have hset := dl_set S i (a.length + 1) (by omega)
  have hlen : (dl S i ++ List.replicate (a.length + 1 - i) 0).length = a.length + 1 := by simp [dl_length]; omega
  generalize hq' : T i / 4294967296 ^ i = q at *
  generalize hx' : a.getD i 0 = x at *
  generalize hy' : b.getD i 0 = y at *
  simp only [st_z00_plus_0, Int.toNat_natCast]
  rw [decide_eq_true (by omega : (i : Int) < a.length), cond_true, hx', hy', and_tr (inR_of (by omega) (by omega)), hlen]
  have hstep : ∀ s : Int, s = ((q + (x.toNat + y.toNat) : Nat) : Int) -> K ((Int.fdiv s (2 ^ 32)), ((i : Int) + 1), (List.set (dl S i ++ List.replicate (a.length + 1 - i) 0) i (IntKind.wrap .u32 s))) = K (((T (i + 1) / 4294967296 ^ (i + 1) : Nat) : Int), ((i + 1 : Nat) : Int), dl S (i + 1) ++ List.replicate (a.length + 1 - (i + 1)) 0) := by
   intro s hs
   have e1 : Int.fdiv s (2 ^ 32) = ((T (i + 1) / 4294967296 ^ (i + 1) : Nat) : Int) := by rw [fdiv32, hdiv, hq, hs]; omega
   have e2 : IntKind.wrap .u32 s = ((S / 4294967296 ^ i % 4294967296 : Nat) : Int) := by rw [wrap32, hdig, hq, hs]; omega
   rw [e1, e2, hset]; rfl
  by_cases hib : i < b.length
  ·rw [decide_eq_true (by omega : (i : Int) < b.length), cond_true, and_tr (inR_of (by omega) (by omega)), and_tr (inR_of (by omega) (by omega)), and_tr (decide_eq_true (by omega)), and_tr (fits_ok (by omega) (by omega))]
   exact hstep _ (by simp only [wrap64]; omega)
  ·rw [decide_eq_false (by omega : ¬ (i : Int) < b.length), cond_false, and_tr (inR_of (by omega) (by omega)), and_tr (decide_eq_true (by omega)), and_tr (fits_ok (by omega) (by omega))]
   have hy0 : y = 0 := by rw [<- hy']; exact getD_zero_of (by omega)
   subst hy0
   exact hstep _ (by simp only [wrap64]; omega)
 ·simp only [st_z00_plus_0]
  rw [decide_eq_false (by omega : ¬ (a.length : Int) < a.length), cond_false]
  have hT : T a.length = S := by simp only [T, S]; rw [List.take_length, List.take_of_length_le hl]
  have hS : S < 4294967296 ^ (a.length + 1) := by
   have h1 := mval_lt ha
   have h2 := mval_lt hb
   have h3 : 4294967296 ^ b.length <= 4294967296 ^ a.length := Nat.pow_le_pow_right (by decide) hl
   rw [Nat.pow_succ]
   simp only [S]; omega
  have hlen : (dl S a.length ++ List.replicate (a.length + 1 - a.length) 0).length = a.length + 1 := by simp [dl_length]
  have e2 : IntKind.wrap .u32 ((T a.length / 4294967296 ^ a.length : Nat) : Int) = ((S / 4294967296 ^ a.length % 4294967296 : Nat) : Int) := by rw [wrap32, hT]; omega
  have hset := dl_set S a.length (a.length + 1) (by omega)
  rw [e2, Int.toNat_natCast, hset, hlen, and_tr (inR_of (by omega) (by omega)), and_tr (decide_eq_true (by omega)), Nat.sub_self, List.replicate_zero, List.append_nil,
   law_cut_take _ (dl_inW S _) (by rw [dl_length]; omega) (by rw [dl_length]; omega), digs_dl hS]
theorem law_plus {N : Nat} (a b : List Int) (ha : InW a) (hb : InW b) (hNa : Short N a) (hNb : Short N b) (k : List Int -> Bool) : sQ77 N a b k = k (digs (mval a + mval b)) := by
 unfold sQ77 GQ77
 have h1 := hNa.2
 have h2 := hNb.2
 by_cases h : a.length < b.length
 ·rw [decide_eq_true (by omega : (a.length : Int) < b.length), cond_true, and_tr (fits_ok (by omega) (by omega)), and_tr (mkOk_ok (by omega) (by omega) (by omega) (by omega))]
  have e : Int.toNat ((b.length : Int) + 1) = b.length + 1 := by omega
  rw [e, plus_loop b a hb ha (by omega) hNb k, Nat.add_comm]
 ·rw [decide_eq_false (by omega : ¬ (a.length : Int) < b.length), cond_false, and_tr (fits_ok (by omega) (by omega)), and_tr (mkOk_ok (by omega) (by omega) (by omega) (by omega))]
  have e : Int.toNat ((a.length : Int) + 1) = a.length + 1 := by omega
  rw [e, plus_loop a b ha hb (by omega) hNa k]
theorem pow_pos32 (i : Nat) : 0 < 4294967296 ^ i := Nat.pow_pos (by decide)
theorem int_div_of {D e P : Nat} {z : Int} (h : (D : Int) = (e : Int) + (P : Int) * z) (he : e < P) : ((D / P : Nat) : Int) = z := by
 have hP : (P : Int) ≠ 0 := by omega
 rw [Int.natCast_ediv, h, Int.add_mul_ediv_left _ _ hP, <- Int.natCast_ediv, Nat.div_eq_of_lt he]
 simp
theorem borrow_step (P A B x y : Nat) (hA : A < P) (hB : B < P) : (if A + P * x < B + P * y then 1 else 0) = if x < y + (if A < B then 1 else 0) then 1 else (0 : Nat) := by
 by_cases hxy : x < y
 ·have : P * (x + 1) <= P * y := Nat.mul_le_mul_left P hxy
  rw [Nat.mul_add] at this
  rw [if_pos (by omega), if_pos (by omega)]
 ·by_cases hyx : y < x
  ·have : P * (y + 1) <= P * x := Nat.mul_le_mul_left P hyx
   rw [Nat.mul_add] at this
   rw [if_neg (by omega), if_neg (by split <;> omega)]
  ·have : x = y := by omega
   subst this
   by_cases hAB : A < B
   ·rw [if_pos (by omega), if_pos hAB, if_pos (by omega)]
   ·rw [if_neg (by omega), if_neg hAB, if_neg (by omega)]
theorem diff_div {P A B x y o R1 R2 D a b : Nat} (hA : A < P) (hB : B < P) (ho : o = if A < B then 1 else 0) (h1 : a = A + P * x + P * 4294967296 * R1) (h2 : b = B + P * y + P * 4294967296 * R2) (hD : (D : Int) = (a : Int) - (b : Int)) :
  ((D / P : Nat) : Int) = (x : Int) - (y : Int) - (o : Int) + 4294967296 * ((R1 : Int) - (R2 : Int)) := by
 have he : ∃ e : Nat, e < P /\ (e : Int) = (A : Int) - (B : Int) + (P : Int) * (o : Int) := by
  rw [ho]
  split
  ·exact ⟨A + P - B, by omega, by omega⟩
  ·exact ⟨A - B, by omega, by omega⟩
 obtain ⟨e, he1, he2⟩ := he
 refine int_div_of (e := e) ?_ he1
 have e1 : (a : Int) = A + (P : Int) * x + 4294967296 * ((P : Int) * R1) := by
  rw [h1, Nat.mul_assoc, Nat.mul_left_comm]; simp
 have e2 : (b : Int) = B + (P : Int) * y + 4294967296 * ((P : Int) * R2) := by
  rw [h2, Nat.mul_assoc, Nat.mul_left_comm]; simp
 have e3 : (P : Int) * ((x : Int) - (y : Int) - (o : Int) + 4294967296 * ((R1 : Int) - (R2 : Int))) = (P : Int) * x - (P : Int) * y - (P : Int) * o + (4294967296 * ((P : Int) * R1) - 4294967296 * ((P : Int) * R2)) := by
  rw [Int.mul_add, Int.mul_sub, Int.mul_sub, Int.mul_left_comm, Int.mul_sub, Int.mul_sub]
 rw [hD, e1, e2, e3, he2]
 omega
theorem law_minus {N : Nat} (a b : List Int) (ha : InW a) (hb : InW b) (hle : mval b <= mval a) (hN : Short N a) (k : List Int -> Bool) : sQ68 N a b k = k (digs (mval a - mval b)) := by
 obtain ⟨hN1, hN2⟩ := hN
 unfold sQ68 GQ68
 rw [and_tr (mkOk_ok (by omega) (by omega) (by omega) (by omega)), Int.toNat_natCast]
 let D := mval a - mval b
 let bo := fun i => if mval (a.take i) < mval (b.take i) then (1 : Nat) else 0
 refine iterG_from0 (fun i => (((bo i : Nat) : Int), (i : Int), dl D i ++ List.replicate (a.length - i) 0)) a.length (by simp [bo, mval, dl]) (by omega) (fun i hi K => ?_) (fun K => ?_)
 ·have hx := ha.at (i := i)
  have hy := hb.at (i := i)
  have hA := mval_take_all (m := a) i
  have hB := mval_take_all (m := b) i
  have hAl := mval_take_lt ha i
  have hBl := mval_take_lt hb i
  have hset := dl_set D i a.length (by omega)
  have hl : (dl D i ++ List.replicate (a.length - i) 0).length = a.length := by simp [dl_length]; omega
  obtain ⟨R1, h1⟩ := mval_split_ge a (i + 1)
  obtain ⟨R2, h2⟩ := mval_split_ge b (i + 1)
  have hD : (D : Int) = (mval a : Int) - (mval b : Int) := by simp only [D]; omega
  have hP := pow_pos32 i
  have hPs : 4294967296 ^ (i + 1) = 4294967296 ^ i * 4294967296 := Nat.pow_succ ..
  have hbo : bo i <= 1 := by simp only [bo]; split <;> omega
  have hbs : bo (i + 1) = if (a.getD i 0).toNat < (b.getD i 0).toNat + bo i then 1 else 0 := by
   simp only [bo, hA, hB]
   exact borrow_step _ _ _ _ _ hAl hBl
  have hq : ((D / 4294967296 ^ i : Nat) : Int) = ((a.getD i 0).toNat : Int) - ((b.getD i 0).toNat : Int) - (bo i : Int) + 4294967296 * ((R1 : Int) - (R2 : Int)) := by
   rw [hA, hPs] at h1
   rw [hB, hPs] at h2
   exact diff_div hAl hBl rfl h1 h2 hD
  have hdig : ((D / 4294967296 ^ i % 4294967296 : Nat) : Int) = (((a.getD i 0).toNat : Int) - ((b.getD i 0).toNat : Int) - (bo i : Int)) % 4294967296 := by
   rw [Int.natCast_emod, hq]
   exact Int.add_mul_emod_self_left _ _ _
  generalize hx' : a.getD i 0 = x at *
  generalize hy' : b.getD i 0 = y at *
  generalize bo i = o at *
  generalize bo (i + 1) = o' at *
  simp only [st_z00_minus_0, Int.toNat_natCast]
  have hy0 : ¬ i < b.length -> y = 0 := fun h => by rw [<- hy']; exact getD_zero_of (by omega)
  have fin : ∀ (v w : Int), v = (o' : Int) -> w % 4294967296 = ((D / 4294967296 ^ i % 4294967296 : Nat) : Int) -> K (v, (i : Int) + 1, List.set (dl D i ++ List.replicate (a.length - i) 0) i (IntKind.wrap .u32 w)) = K ((o' : Int), ((i + 1 : Nat) : Int), dl D (i + 1) ++ List.replicate (a.length - (i + 1)) 0) := by
   intro v w hv hw
   rw [hv, wrap32, hw, hset]; rfl
  simp only [hx', hy', hl]
  rw [decide_eq_true (by omega : (i : Int) < a.length), cond_true]
  by_cases hib : i < b.length
  ·rw [decide_eq_true (by omega : (i : Int) < b.length), cond_true, and_tr (inR_of (by omega) (by omega)), and_tr (inR_of (by omega) (by omega))]
   by_cases hlt : x.toNat < y.toNat + o
   ·rw [decide_eq_true (by simp only [wrap64]; omega), cond_true, and_tr (inR_of (by omega) (by omega)), and_tr (decide_eq_true (by omega)), and_tr (fits_ok (by omega) (by omega))]
    rw [if_pos hlt] at hbs
    exact fin _ _ (by omega) (by rw [hdig]; simp only [wrap64]; omega)
   ·rw [decide_eq_false (by simp only [wrap64]; omega), cond_false, and_tr (inR_of (by omega) (by omega)), and_tr (decide_eq_true (by omega)), and_tr (fits_ok (by omega) (by omega))]
    rw [if_neg hlt] at hbs
    exact fin _ _ (by omega) (by rw [hdig]; simp only [wrap64]; omega)
  ·have hy1 := hy0 hib
   rw [decide_eq_false (by omega : ¬ (i : Int) < b.length), cond_false, and_tr (inR_of (by omega) (by omega))]
   by_cases hlt : x.toNat < y.toNat + o
   ·rw [decide_eq_true (by simp only [wrap64]; omega), cond_true, and_tr (inR_of (by omega) (by omega)), and_tr (decide_eq_true (by omega)), and_tr (fits_ok (by omega) (by omega))]
    rw [if_pos hlt] at hbs
    exact fin _ _ (by omega) (by rw [hdig]; simp only [wrap64]; omega)
   ·rw [decide_eq_false (by simp only [wrap64]; omega), cond_false, and_tr (inR_of (by omega) (by omega)), and_tr (decide_eq_true (by omega)), and_tr (fits_ok (by omega) (by omega))]
    rw [if_neg hlt] at hbs
    exact fin _ _ (by omega) (by rw [hdig]; simp only [wrap64]; omega)
 ·simp only [st_z00_minus_0]
  rw [decide_eq_false (by omega : ¬ (a.length : Int) < a.length), cond_false, Nat.sub_self, List.replicate_zero, List.append_nil]
  have hS : D < 4294967296 ^ a.length := by have := mval_lt ha; simp only [D]; omega
  rw [law_cut_take _ (dl_inW D _) (by rw [dl_length]; omega) (by rw [dl_length]; omega), digs_dl hS]
theorem bitsN_or_disj64 (a c s : Nat) (ha : a < 2 ^ s) (hlt : 2 ^ s * c + a < 18446744073709551616) : bitsN .or .u64 (a : Int) ((2 ^ s * c : Nat) : Int) = ((2 ^ s * c + a : Nat) : Int) := by
 unfold bitsN bitsI
 simp only [Option.getD_some]
 have e : ((BitVec.ofInt (IntKind.bits .u64) (a : Int)) ||| (BitVec.ofInt (IntKind.bits .u64) ((2 ^ s * c : Nat) : Int))).toNat = 2 ^ s * c + a := by
  show ((BitVec.ofInt 64 (a : Int)) ||| (BitVec.ofInt 64 ((2 ^ s * c : Nat) : Int))).toNat = _
  have h64 : (2 : Nat) ^ 64 = 18446744073709551616 := by decide
  rw [BitVec.toNat_or, BitVec.ofInt_natCast, BitVec.ofInt_natCast, BitVec.toNat_ofNat, BitVec.toNat_ofNat, Nat.mod_eq_of_lt (by omega), Nat.mod_eq_of_lt (by omega), Nat.or_comm, <- Nat.two_pow_add_eq_or_of_lt ha]
 rw [e, wrap_u64 _ hlt]
theorem wrap_u32 (n : Nat) (h : n < 4294967296) : IntKind.wrap .u32 (n : Int) = n := by rw [wrap32]; omega
theorem bitsN_or_disj32 (a c s : Nat) (ha : a < 2 ^ s) (hlt : 2 ^ s * c + a < 4294967296) : bitsN .or .u32 (a : Int) ((2 ^ s * c : Nat) : Int) = ((2 ^ s * c + a : Nat) : Int) := by
 unfold bitsN bitsI
 simp only [Option.getD_some]
 have e : ((BitVec.ofInt (IntKind.bits .u32) (a : Int)) ||| (BitVec.ofInt (IntKind.bits .u32) ((2 ^ s * c : Nat) : Int))).toNat = 2 ^ s * c + a := by
  show ((BitVec.ofInt 32 (a : Int)) ||| (BitVec.ofInt 32 ((2 ^ s * c : Nat) : Int))).toNat = _
  have h32 : (2 : Nat) ^ 32 = 4294967296 := by decide
  rw [BitVec.toNat_or, BitVec.ofInt_natCast, BitVec.ofInt_natCast, BitVec.toNat_ofNat, BitVec.toNat_ofNat, Nat.mod_eq_of_lt (by omega), Nat.mod_eq_of_lt (by omega), Nat.or_comm, <- Nat.two_pow_add_eq_or_of_lt ha]
 rw [e, wrap_u32 _ hlt]
def cmpN (x y : Nat) : Int := if x < y then -1 else if x = y then 0 else 1
theorem cmp_lt {P A B x y : Nat} (hA : A < P) (h : x < y) : cmpN (A + P * x) (B + P * y) = -1 := by
 have : P * (x + 1) <= P * y := Nat.mul_le_mul_left P h
 rw [Nat.mul_add] at this
 unfold cmpN
 rw [if_pos (by omega)]
theorem cmp_gt {P A B x y : Nat} (hB : B < P) (h : y < x) : cmpN (A + P * x) (B + P * y) = 1 := by
 have : P * (y + 1) <= P * x := Nat.mul_le_mul_left P h
 rw [Nat.mul_add] at this
 unfold cmpN
 rw [if_neg (by omega), if_neg (by omega)]
theorem cmp_same {P A B x : Nat} : cmpN (A + P * x) (B + P * x) = cmpN A B := by
 unfold cmpN
 by_cases h3 : A < B
 ·rw [if_pos h3, if_pos (by omega)]
 ·by_cases h4 : A = B
  ·subst h4; simp
  ·rw [if_neg h3, if_neg h4, if_neg (by omega), if_neg (by omega)]
theorem compare_loop {N : Nat} (a b : List Int) (ha : InW a) (hb : InW b) (hl : a.length = b.length) (hs : a.length < 9223372036854775807) (k : Int -> Bool) :
  ∀ n, n <= a.length -> ∀ M, n < M -> iterG M (stQ101 N a b (fun t4 => k t4) (k 0)) ((n : Int) - 1) = k (cmpN (mval (a.take n)) (mval (b.take n))) := by
 intro n
 induction n with
 | zero =>
  intro _ M hM
  cases M with
  | zero => omega
  | succ M =>
   show stQ101 N a b _ _ ((0 : Nat) - 1 : Int) _ = _
   simp [stQ101, cmpN, mval]
 | succ n ih =>
  intro hn M hM
  cases M with
  | zero => omega
  | succ M =>
   show stQ101 N a b _ _ (((n + 1 : Nat) : Int) - 1) (iterG M _) = _
   have e : (((n + 1 : Nat) : Int) - 1) = (n : Int) := by omega
   have hx := ha.at (i := n)
   have hy := hb.at (i := n)
   have hA := mval_take_all (m := a) n
   have hB := mval_take_all (m := b) n
   have hAl := mval_take_lt ha n
   have hBl := mval_take_lt hb n
   rw [e]
   simp only [stQ101, Int.toNat_natCast]
   rw [hA, hB, decide_eq_true (by omega : (n : Int) >= 0), cond_true, and_tr (inR_of (by omega) (by omega)), and_tr (inR_of (by omega) (by omega)), and_tr (inR_of (by omega) (by omega)), and_tr (inR_of (by omega) (by omega)), and_tr (fits_ok (by omega) (by omega)), ih (by omega) M (by omega)]
   by_cases h1 : a.getD n 0 < b.getD n 0
   ·rw [decide_eq_true h1, cond_true, cmp_lt hAl (by omega)]
   ·rw [decide_eq_false h1, cond_false]
    by_cases h2 : a.getD n 0 > b.getD n 0
    ·rw [decide_eq_true h2, cond_true, cmp_gt hBl (by omega)]
    ·rw [decide_eq_false h2, cond_false]
     have : a.getD n 0 = b.getD n 0 := by omega
     rw [this, cmp_same]
theorem digs_length_le {x y : Nat} (h : x <= y) : (digs x).length <= (digs y).length := by
 induction y using Nat.strongRecOn generalizing x with
 | ind y ih =>
  by_cases hx : x = 0
  ·subst hx; rw [digs_zero]; simp
  ·rw [digs_pos hx, digs_pos (by omega : y ≠ 0)]
   simp only [List.length_cons]
   have := ih (y / 4294967296) (by omega) (x := x / 4294967296) (Nat.div_le_div_right h)
   omega
theorem law_compare {N : Nat} (x y : Nat) (hx : Short N (digs x)) (hy : Short N (digs y)) (k : Int -> Bool) : sQ60 N (digs x) (digs y) k = k (cmpN x y) := by
 unfold sQ60 GQ60
 obtain ⟨x1, x2⟩ := hx
 obtain ⟨y1, y2⟩ := hy
 by_cases h : (digs x).length = (digs y).length
 ·have e : (((digs x).length : Int) != (digs y).length) = false := by rw [h]; simp
  rw [e, cond_false, and_tr (fits_ok (by omega) (by omega)), compare_loop (digs x) (digs y) (digs_inW x) (digs_inW y) h (by omega) k _ (Nat.le_refl _) N (by omega), List.take_length, h, List.take_length, mval_digs, mval_digs]
 ·have e : (((digs x).length : Int) != (digs y).length) = true := by simp; omega
  rw [e, cond_true]
  by_cases h1 : (digs x).length < (digs y).length
  ·rw [decide_eq_true (by omega), cond_true]
   have : x < y := by
    rcases Nat.lt_or_ge x y with h2 | h2
    ·exact h2
    ·have := digs_length_le h2; omega
   unfold cmpN; rw [if_pos this]
  ·rw [decide_eq_false (by omega), cond_false]
   have : ¬ x <= y := fun h2 => by have := digs_length_le h2; omega
   unfold cmpN; rw [if_neg (by omega), if_neg (by omega)]
def bl (n : Nat) : Nat := if n = 0 then 0 else n.log2 + 1
theorem bl_shift {n : Nat} (j : Nat) (h : 2 ^ j <= n) : bl n = j + bl (n / 2 ^ j) := by
 have hp : 0 < 2 ^ j := Nat.two_pow_pos j
 have h0 : n ≠ 0 := by omega
 have h1 : n / 2 ^ j ≠ 0 := by
  have := Nat.div_pos h hp
  omega
 unfold bl
 rw [if_neg h0, if_neg h1]
 have hj : j <= n.log2 := (Nat.le_log2 h0).2 h
 have : (n / 2 ^ j).log2 = n.log2 - j := by
  rw [Nat.log2_eq_iff h1]
  have h2 := Nat.log2_self_le h0
  have h3 : n < 2 ^ (n.log2 + 1) := Nat.lt_log2_self
  constructor
  ·rw [Nat.le_div_iff_mul_le hp, <- Nat.pow_add]
   rw [show n.log2 - j + j = n.log2 by omega]; exact h2
  ·rw [Nat.div_lt_iff_lt_mul hp, <- Nat.pow_add]
   rw [show n.log2 - j + 1 + j = n.log2 + 1 by omega]; exact h3
 omega
theorem digs_length_bl : ∀ n, n ≠ 0 -> bl n = 32 * ((digs n).length - 1) + bl ((digs n).getD ((digs n).length - 1) 0).toNat /\ 0 < (digs n).length := by
  intro n
  induction n using Nat.strongRecOn with
  | ind n ih =>
    intro h
    rw [digs_pos h]
    by_cases h1 : n / 4294967296 = 0
    · rw [h1, digs_zero]
      have : n % 4294967296 = n := Nat.mod_eq_of_lt (by omega)
      simp [this]
    · obtain ⟨i1, i2⟩ := ih (n / 4294967296) (by omega) h1
      have e := bl_shift (n := n) 32 (by have : (2 : Nat) ^ 32 = 4294967296 := by decide
                                         omega)
      rw [show (2 : Nat) ^ 32 = 4294967296 by decide] at e
      refine ⟨?_, by simp⟩
      have e2 : (((n % 4294967296 : Nat) : Int) :: digs (n / 4294967296)).getD ((((n % 4294967296 : Nat) : Int) :: digs (n / 4294967296)).length - 1) 0 = (digs (n / 4294967296)).getD ((digs (n / 4294967296)).length - 1) 0 := by
        simp only [List.length_cons, Nat.add_sub_cancel]
        generalize digs (n / 4294967296) = l at i2 ⊢
        cases l with
        | nil => simp at i2
        | cons y l => simp
      rw [e2, e, i1]
      simp only [List.length_cons]
      omega
theorem dl_of_zero : ∀ (w X : Nat), dl (4294967296 ^ w * X) w = List.replicate w 0 := by
 intro w
 have key : ∀ n, n <= w -> ∀ X, dl (4294967296 ^ w * X) n = List.replicate n 0 := by
  intro n
  induction n with
  | zero => intro _ X; rfl
  | succ n ih =>
   intro hn X
   rw [dl, ih (by omega), List.replicate_succ']
   have e : 4294967296 ^ w * X = 4294967296 ^ n * (4294967296 * (4294967296 ^ (w - n - 1) * X)) := by
    rw [<- Nat.mul_assoc, <- Nat.mul_assoc, <- Nat.pow_succ, <- Nat.pow_add]
    congr 2; omega
   rw [e, Nat.mul_div_cancel_left _ (pow_pos32 n), Nat.mul_mod_right]
   rfl
 exact key w (Nat.le_refl _)
theorem pow2_32 (n : Nat) : 2 ^ n = 4294967296 ^ (n / 32) * 2 ^ (n % 32) := by
 have : (4294967296 : Nat) = 2 ^ 32 := by decide
 rw [this, <- Nat.pow_mul, <- Nat.pow_add]
 congr 1; omega
theorem set_append_at {α : Type} (xs : List α) (y : α) (ys : List α) (z : α) (n : Nat) (h : n = xs.length) : (xs ++ y :: ys).set n z = xs ++ z :: ys := by
 subst h; rw [List.set_append_right _ _ (Nat.le_refl _), Nat.sub_self]; rfl
theorem getD_append_at {xs : List Int} {y : Int} {ys : List Int} {n : Nat} (h : n = xs.length) : (xs ++ y :: ys).getD n 0 = y := by
 subst h; rw [List.getD_eq_getElem?_getD, List.getElem?_append_right (Nat.le_refl _), Nat.sub_self]; rfl
theorem law_left {N : Nat} (m : List Int) (hm : InW m) (n : Nat) (hn : n < 4294967296) (hN : m.length + n / 32 + 4 < N) (hs : m.length <= 1099511627776) (k : List Int -> Bool) : sQ76 N m n k = k (digs (mval m * 2 ^ n)) := by
 unfold sQ76 GQ76
 by_cases h0 : m.length = 0
 ·have : m = [] := List.length_eq_zero_iff.1 h0
  subst this
  simp [mval, digs_zero]
 ·have e0 : ((m.length : Int) == 0) = false := by simp; intro h; subst h; simp at h0
  have ew : IntKind.wrap .u64 (Int.tdiv (n : Int) 32) = ((n / 32 : Nat) : Int) := by
   rw [wrap64, Int.tdiv_eq_ediv_of_nonneg (by omega)]; omega
  have es : Int.tmod (n : Int) 32 = ((n % 32 : Nat) : Int) := by rw [Int.tmod_eq_emod_of_nonneg (by omega)]; rfl
  rw [e0, cond_false, ew, es]
  generalize hw : n / 32 = w at *
  generalize hsh : n % 32 = s at *
  have hs32 : s < 32 := by omega
  have hp2 : 2 ^ n = 4294967296 ^ w * 2 ^ s := by rw [pow2_32, hw, hsh]
  have hs0 : 0 < 2 ^ s := Nat.two_pow_pos s
  have hs1 : 2 ^ s * 2 ^ (32 - s) = 4294967296 := by rw [<- Nat.pow_add, show s + (32 - s) = 32 by omega]
  have hs2 : 2 ^ s <= 2147483648 := by
   have : 2 ^ s <= 2 ^ 31 := Nat.pow_le_pow_right (by decide) (by omega)
   simpa using this
  have elen : Int.toNat (((w : Nat) : Int) + (m.length : Int) + 1) = w + m.length + 1 := by omega
  rw [and_tr (fits_ok (by omega) (by omega)), and_tr (fits_ok (by omega) (by omega)), and_tr (fits_ok (by omega) (by omega)), and_tr (mkOk_ok (by omega) (by omega) (by omega) (by omega)), elen]
  let V := mval m * 2 ^ n
  let X := mval m * 2 ^ s
  have hVX : V = 4294967296 ^ w * X := by simp only [V, X]; rw [hp2, Nat.mul_left_comm]
  let T := fun i => mval (m.take i) * 2 ^ s
  let c := fun i => T i / 4294967296 ^ i
  refine iterG_from0 (fun i => ((i : Int), dl V (w + i) ++ ((c i : Nat) : Int) :: List.replicate (m.length - i) 0)) m.length ?_ (by omega) (fun i hi K => ?_) (fun K => ?_)
  ·congr 1
   show List.replicate (w + m.length + 1) (0 : Int) = dl V w ++ ((c 0 : Nat) : Int) :: List.replicate m.length 0
   rw [hVX, dl_of_zero]
   have hc0 : c 0 = 0 := by simp [c, T, mval]
   rw [hc0]
   have : w + m.length + 1 = w + (m.length + 1) := by omega
   rw [this, <- List.replicate_append_replicate, List.replicate_succ]; rfl
  ·have hx := hm.at (i := i)
   have hT : T (i + 1) = T i + 4294967296 ^ i * ((m.getD i 0).toNat * 2 ^ s) := by
    simp only [T, mval_take_all, Nat.add_mul, Nat.mul_assoc]
   have hq : T (i + 1) / 4294967296 ^ i = c i + (m.getD i 0).toNat * 2 ^ s := by rw [hT, div_pow_add]
   have hci : c i < 2 ^ s := by
    simp only [c, T]
    rw [Nat.div_lt_iff_lt_mul (pow_pos32 i), Nat.mul_comm]
    exact Nat.mul_lt_mul_of_pos_left (mval_take_lt hm i) hs0
   have hc1 : c (i + 1) = (c i + (m.getD i 0).toNat * 2 ^ s) / 4294967296 := by
    rw [<- hq]; simp only [c]; rw [Nat.pow_succ, Nat.div_div_eq_div_mul]
   have hdig : V / 4294967296 ^ (w + i) % 4294967296 = (c i + (m.getD i 0).toNat * 2 ^ s) % 4294967296 := by
    rw [<- hq, hVX, Nat.pow_add, <- Nat.div_div_eq_div_mul, Nat.mul_div_cancel_left _ (pow_pos32 w)]
    obtain ⟨R, hR⟩ := mval_split_ge m (i + 1)
    refine digit_of (R := R * 2 ^ s) ?_
    simp only [X, T]
    rw [hR, Nat.add_mul, Nat.mul_assoc]
   have hrep : List.replicate (m.length - i) (0 : Int) = 0 :: List.replicate (m.length - (i + 1)) 0 := by
    rw [show m.length - i = (m.length - (i + 1)) + 1 by omega, List.replicate_succ]
   have hdl := dl_length V (w + i)
   have ei : Int.toNat ((w : Int) + (i : Int)) = w + i := by omega
   have ei1 : Int.toNat ((w : Int) + (i : Int) + 1) = w + i + 1 := by omega
   have emin : min s 64 = s := by omega
   simp only [st_z00_left_0, Int.toNat_natCast, ei, ei1, emin]
   rw [hrep, getD_append_at hdl.symm, set_append_at _ _ _ _ _ hdl.symm]
   have et : IntKind.wrap .u64 (IntKind.wrap .u64 (m.getD i 0) * 2 ^ s) = (((m.getD i 0).toNat * 2 ^ s : Nat) : Int) := by
    have hxs : (m.getD i 0).toNat * 2 ^ s < 4294967296 * 2147483648 := Nat.mul_lt_mul_of_lt_of_le (by omega) hs2 (by decide)
    have e1 : IntKind.wrap .u64 (m.getD i 0) = (((m.getD i 0).toNat : Nat) : Int) := by rw [wrap64]; omega
    have e2 : (((m.getD i 0).toNat : Nat) : Int) * 2 ^ s = (((m.getD i 0).toNat * 2 ^ s : Nat) : Int) := by simp
    rw [e1, e2, wrap64]; omega
   rw [et]
   generalize hxx : (m.getD i 0).toNat = x at *
   have hx32 : x < 4294967296 := by omega
   have hlow : x * 2 ^ s % 4294967296 = 2 ^ s * (x % 2 ^ (32 - s)) := by
    have e : x * 2 ^ s % (2 ^ s * 2 ^ (32 - s)) = 2 ^ s * (x % 2 ^ (32 - s)) := by rw [Nat.mul_comm x]; exact Nat.mul_mod_mul_left _ _ _
    rwa [hs1] at e
   have hsum : 2 ^ s * (x % 2 ^ (32 - s)) + c i < 4294967296 := by
    have h1 : x % 2 ^ (32 - s) + 1 <= 2 ^ (32 - s) := Nat.mod_lt _ (Nat.two_pow_pos _)
    have h2 := Nat.mul_le_mul_left (2 ^ s) h1
    rw [hs1, Nat.mul_add] at h2
    omega
   have eor : bitsN .or .u32 ((c i : Nat) : Int) (IntKind.wrap .u32 ((x * 2 ^ s : Nat) : Int)) = ((V / 4294967296 ^ (w + i) % 4294967296 : Nat) : Int) := by
    have e1 : IntKind.wrap .u32 ((x * 2 ^ s : Nat) : Int) = ((2 ^ s * (x % 2 ^ (32 - s)) : Nat) : Int) := by rw [<- hlow, wrap32]; omega
    rw [e1, bitsN_or_disj32 _ _ s hci hsum, hdig]
    omega
   have ehi : IntKind.wrap .u32 (Int.fdiv ((x * 2 ^ s : Nat) : Int) (2 ^ 32)) = ((c (i + 1) : Nat) : Int) := by
    have hxs : x * 2 ^ s < 4294967296 * 2147483648 := Nat.mul_lt_mul_of_lt_of_le hx32 hs2 (by decide)
    rw [fdiv32, wrap32, hc1]
    omega
   rw [eor, ehi]
   have hl1 : ∀ (a b : Int) (ys : List Int), (dl V (w + i) ++ a :: b :: ys).length = w + i + 2 + ys.length := by intro a b ys; simp [hdl]; omega
   have hset2 : (dl V (w + i) ++ ((V / 4294967296 ^ (w + i) % 4294967296 : Nat) : Int) :: 0 :: List.replicate (m.length - (i + 1)) 0).set (w + i + 1) ((c (i + 1) : Nat) : Int) = dl V (w + (i + 1)) ++ ((c (i + 1) : Nat) : Int) :: List.replicate (m.length - (i + 1)) 0 := by
    have : dl V (w + i) ++ ((V / 4294967296 ^ (w + i) % 4294967296 : Nat) : Int) :: 0 :: List.replicate (m.length - (i + 1)) 0 = dl V (w + (i + 1)) ++ 0 :: List.replicate (m.length - (i + 1)) 0 := by
     rw [<- Nat.add_assoc, dl]; simp
    rw [this]
    exact set_append_at _ _ _ _ _ (by rw [dl_length]; omega)
   rw [hset2, hl1, hl1]
   simp only [List.length_replicate]
   rw [decide_eq_true (by omega : (i : Int) < m.length), cond_true, and_tr (inR_of (by omega) (by omega)), and_tr (decide_eq_true (by omega)), and_tr (fits_ok (by omega) (by omega)), and_tr (inR_of (by omega) (by omega)), and_tr (decide_eq_true (by omega)), and_tr (inR_of (by omega) (by omega)), and_tr (decide_eq_true (by omega)),
    and_tr (fits_ok (by omega) (by omega)), and_tr (fits_ok (by omega) (by omega)), and_tr (inR_of (by omega) (by omega)), and_tr (decide_eq_true (by omega)), and_tr (fits_ok (by omega) (by omega))]
   rfl
  ·simp only [st_z00_left_0]
   rw [decide_eq_false (by omega : ¬ (m.length : Int) < m.length), cond_false, Nat.sub_self, List.replicate_zero]
   have hV : V < 4294967296 ^ (w + m.length + 1) := by
    have h1 := mval_lt hm
    simp only [V]
    rw [hp2, Nat.pow_succ, Nat.pow_add, Nat.mul_left_comm, Nat.mul_assoc]
    refine Nat.mul_lt_mul_of_pos_left ?_ (pow_pos32 w)
    exact Nat.mul_lt_mul_of_lt_of_le h1 (by omega) (by decide)
   have hT : T m.length = X := by simp only [T, X]; rw [List.take_length]
   have hend : dl V (w + m.length) ++ [((c m.length : Nat) : Int)] = dl V (w + m.length + 1) := by
    rw [dl]
    have : c m.length = V / 4294967296 ^ (w + m.length) % 4294967296 := by
     simp only [c]
     rw [hT, hVX, Nat.pow_add, <- Nat.div_div_eq_div_mul, Nat.mul_div_cancel_left _ (pow_pos32 w)]
     rw [Nat.mod_eq_of_lt]
     rw [Nat.div_lt_iff_lt_mul (pow_pos32 _), Nat.mul_comm]
     have h1 := mval_lt hm
     simp only [X]
     exact Nat.mul_lt_mul_of_lt_of_le h1 (by omega) (by decide)
    rw [this]
   rw [hend, law_cut_take _ (dl_inW V _) (by rw [dl_length]; omega) (by rw [dl_length]; omega), digs_dl hV]
theorem law_words {N : Nat} (n : Nat) (hn : n < 18446744073709551616) (hN : 4 < N) (k : List Int -> Bool) : sQ45 N n k = k (digs n) := by
 unfold sQ45 GQ45
 have hw : InW [IntKind.wrap .u32 (n : Int), IntKind.wrap .u32 (Int.fdiv (n : Int) (2 ^ 32))] := by
  intro x hx
  simp only [wrap32, fdiv32, List.mem_cons, List.not_mem_nil, or_false] at hx
  rcases hx with rfl | rfl <;> omega
 have hv : mval [IntKind.wrap .u32 (n : Int), IntKind.wrap .u32 (Int.fdiv (n : Int) (2 ^ 32))] = n := by
  simp only [mval, wrap32, fdiv32]; omega
 rw [law_cut_take _ hw (by simp; omega) (by simp), hv]
def sg (neg : Bool) (n : Nat) : Bool := neg && decide (n ≠ 0)
theorem digs_len_pos (n : Nat) : decide (((digs n).length : Int) > 0) = decide (n ≠ 0) := by
 by_cases h : n = 0
 ·subst h; rw [digs_zero]; simp
 ·obtain ⟨-, h2⟩ := digs_length_bl n h
  rw [decide_eq_true (by omega), decide_eq_true h]
theorem put_k (neg : Bool) (n : Nat) (k : Bool -> List Int -> Bool) : cond (neg == true) (k (decide (((digs n).length : Int) > 0)) (digs n)) (k false (digs n)) = k (sg neg n) (digs n) := by
 rw [digs_len_pos]
 cases neg <;> rfl
theorem law_put_n {N : Nat} (neg : Bool) (m : List Int) (b : Bool) (hm : InW m) (hN : Short N m) (k : Bool -> List Int -> Bool) : sQ16 N neg m b k = k (sg neg (mval m)) (digs (mval m)) := by
 unfold sQ16 GQ16
 rw [law_cut m hm (by have := hN.1; omega) (by have := hN.2; omega)]
 exact put_k neg _ k
theorem law_SetUint64 {N : Nat} (n : Nat) (hn : n < 18446744073709551616) (b : Bool) (hN : Short N (digs n)) (h4 : 4 < N) (k : Bool -> List Int -> Bool) : sQ30 N n b k = k false (digs n) := by
 unfold sQ30 GQ30
 rw [law_words n hn h4, law_put_n false _ b (digs_inW n) hN, mval_digs]
 rfl
def ival (g : Bool) (n : Nat) : Int := if g = true then -(n : Int) else n
def intK (z : Int) (k : Bool -> List Int -> Bool) : Bool := k (decide (z < 0)) (digs z.natAbs)
theorem put_val (g : Bool) (n : Nat) (k : Bool -> List Int -> Bool) : k (sg g n) (digs n) = intK (ival g n) k := by
 unfold intK ival sg
 cases g
 ·simp only [Bool.false_eq_true, if_false, Bool.false_and, Int.natAbs_natCast]
  rw [decide_eq_false (by omega)]
 ·simp only [if_true, Bool.true_and, Int.natAbs_neg, Int.natAbs_natCast]
  congr 1
  by_cases h : n = 0
  ·subst h; rfl
  ·rw [decide_eq_true h, decide_eq_true (by omega)]
theorem ival_nat (z : Int) : ival (decide (z < 0)) z.natAbs = z := by
 unfold ival
 by_cases h : z < 0
 ·rw [decide_eq_true h]; simp; omega
 ·rw [decide_eq_false h]; simp; omega
theorem cmpN_ge {x y : Nat} : decide (cmpN x y >= 0) = decide (y <= x) := by
 unfold cmpN
 split
 ·rw [decide_eq_false (by omega), decide_eq_false (by omega)]
 ·split
  ·rw [decide_eq_true (by omega), decide_eq_true (by omega)]
  ·rw [decide_eq_true (by omega), decide_eq_true (by omega)]
theorem sum_cases (g1 g2 turn : Bool) (n1 n2 : Nat) (k : Bool -> List Int -> Bool) :
  cond (g1 == (g2 != turn)) (k (sg (g2 != turn) (n1 + n2)) (digs (n1 + n2))) (cond (decide (cmpN n1 n2 >= 0)) (k (sg g1 (n1 - n2)) (digs (n1 - n2))) (k (sg (g2 != turn) (n2 - n1)) (digs (n2 - n1))))
   = intK (ival g1 n1 + (if turn = true then -(ival g2 n2) else ival g2 n2)) k := by
 rw [put_val _ _ k, put_val _ _ k, put_val _ _ k, cmpN_ge]
 have key : ∀ a b : Int, a = b -> intK a k = intK b k := fun a b h => by rw [h]
 cases g1 <;> cases g2 <;> cases turn <;> simp only [ival] <;> by_cases h : n2 <= n1 <;> simp only [h, decide_true, decide_false, cond_true, cond_false, bne, beq_self_eq_true, Bool.not_true, Bool.not_false, Bool.false_eq_true, if_true, if_false, (by decide : (false == true) = false), (by decide : (true == false) = false)] <;> refine key _ _ ?_ <;> omega
theorem law_sum_n {N : Nat} (turn b g1 : Bool) (n1 : Nat) (g2 : Bool) (n2 : Nat) (h1 : Short N (digs n1)) (h2 : Short N (digs n2)) (h3 : Short N (digs (n1 + n2))) (k : Bool -> List Int -> Bool) :
  sQ34 N turn b g1 (digs n1) g2 (digs n2) k = intK (ival g1 n1 + (if turn = true then -(ival g2 n2) else ival g2 n2)) k := by
 unfold sQ34 GQ34
 have hs : ∀ m, m <= n1 + n2 -> Short N (digs m) := fun m hm => by
  have := digs_length_le hm
  exact ⟨by have := h3.1; omega, by have := h3.2; omega⟩
 rw [law_plus _ _ (digs_inW _) (digs_inW _) h1 h2, law_compare _ _ h1 h2, mval_digs, mval_digs, law_put_n _ _ _ (digs_inW _) h3, mval_digs, <- sum_cases]
 congr 1
 by_cases h : n2 <= n1
 ·rw [law_minus _ _ (digs_inW _) (digs_inW _) (by rw [mval_digs, mval_digs]; exact h) h1, mval_digs, mval_digs, law_put_n _ _ _ (digs_inW _) (hs _ (by omega)), mval_digs, cmpN_ge, decide_eq_true h]
  rfl
 ·rw [law_minus _ _ (digs_inW n2) (digs_inW n1) (by rw [mval_digs, mval_digs]; omega) h2, mval_digs, mval_digs, law_put_n _ _ _ (digs_inW _) (hs _ (by omega)), mval_digs, cmpN_ge, decide_eq_false h]
  rfl
def shOk (N m s : Nat) : Prop := (digs m).length + s / 32 + 4 < N /\ (digs m).length <= 1099511627776 /\ s < 4294967296 /\ Short N (digs (m * 2 ^ s))
theorem law_Lsh_n {N : Nat} (s : Nat) (b g : Bool) (n : Nat) (h : shOk N n s) (k : Bool -> List Int -> Bool) : sQ48 N s b g (digs n) k = intK (ival g (n * 2 ^ s)) k := by
 unfold sQ48 GQ48
 rw [law_left _ (digs_inW n) s h.2.2.1 h.1 h.2.1, mval_digs, law_put_n _ _ _ (digs_inW _) h.2.2.2, mval_digs, put_val _ _ k]
theorem digs_nil {n : Nat} : (((digs n).length : Int) == 0) = decide (n = 0) := by
 by_cases h : n = 0
 ·subst h; rw [digs_zero]; rfl
 ·obtain ⟨-, h2⟩ := digs_length_bl n h
  rw [decide_eq_false h]; simp; intro h'; rw [h'] at h2; simp at h2
theorem law_NewInt {N : Nat} (n : Nat) (hn : n < 9223372036854775808) (hs : Short N (digs n)) (h4 : 4 < N) (k : Bool -> List Int -> Bool) : sQ47 N n k = k false (digs n) := by
 unfold sQ47 GQ47 sQ35 GQ35 JQ96
 have e : IntKind.wrap .u64 (n : Int) = n := by rw [wrap64]; omega
 rw [decide_eq_false (by omega : ¬ (n : Int) < 0), cond_false, e, law_words n (by omega) h4, law_put_n _ _ _ (digs_inW _) hs, mval_digs]
 rfl
theorem nat_fdiv (a b : Nat) : Int.fdiv (a : Int) (b : Int) = ((a / b : Nat) : Int) := by
 rw [Int.fdiv_eq_ediv_of_nonneg _ (by omega)]; rfl
theorem law_format_sign (N : Nat) (k : Int -> Bool) : sQ75 N 52 2047 1075 k = k 9223372036854775808 := by rfl
theorem law_format_infinite (N : Nat) (k : Int -> Bool) : sQ42 N 52 2047 1075 k = k 9218868437227405312 := by rfl
theorem law_format_hidden (N : Nat) (k : Int -> Bool) : sQ61 N 52 2047 1075 k = k 4503599627370496 := by rfl
theorem law_format_none (N : Nat) (k : Int -> Bool) : sQ88 N 52 2047 1075 k = k 9221120237041090561 := by
 unfold sQ88 GQ88
 simp only [law_format_infinite, law_format_hidden]
 exact congrArg k (by decide)
theorem law_nan (N : Nat) (b : Nat) (k : Bool -> Bool) : sQ41 N b 52 2047 1075 k = k (isNaN b) := by
 unfold sQ41 GQ41
 simp only [law_format_sign, law_format_infinite, bitsN_andNot_top]
 congr 1
 rw [Bool.eq_iff_iff, decide_eq_true_iff, isNaN_iff]
 omega
def cnb (b : Nat) : Nat := if isNaN b then 9221120237041090561 else b
theorem law_canon (N : Nat) (b : Nat) (k : Int -> Bool) : sQ19 N b 52 2047 1075 k = k (cnb b) := by
 unfold sQ19 GQ19
 simp only [law_nan, law_format_none, cnb]
 cases isNaN b <;> rfl
theorem law_split (N : Nat) (b : Nat) (k : Bool -> Int -> Int -> Bool) : sQ32 N b 52 2047 1075 k = k (bitsN .and .u64 (cnb b) 9223372036854775808 != 0) ((cnb b / 4503599627370496 % 2048 : Nat) : Int) ((cnb b % 4503599627370496 : Nat) : Int) := by
 unfold sQ32 GQ32
 simp only [law_canon, law_format_sign, law_format_hidden]
 have e1 : (2 : Int) ^ (min (Int.toNat 52) 64) = ((4503599627370496 : Nat) : Int) := by decide
 have e2 : IntKind.wrap .u64 2047 = ((2 ^ 11 - 1 : Nat) : Int) := by decide
 have e3 : IntKind.wrap .u64 (4503599627370496 - 1) = ((2 ^ 52 - 1 : Nat) : Int) := by decide
 have e4 : decide ((0 : Int) <= 52) = true := by decide
 rw [e1, nat_fdiv, e2, e3, bitsN_and_mask _ _ (by decide), bitsN_and_mask _ _ (by decide), e4, fits_ok (by omega) (by omega)]
 rfl
theorem cls_cnb (b : Nat) : cls b = if (cnb b / 4503599627370496 % 2048) = 2047 then (if cnb b % 4503599627370496 = 0 then 2 else 1) else if cnb b / 4503599627370496 % 2048 = 0 then (if cnb b % 4503599627370496 = 0 then 3 else 4) else 5 := by
 unfold cls cnb
 by_cases h : isNaN b = true
 ·rw [if_pos h, if_pos h]; decide
 ·rw [if_neg h, if_neg h]
  have hn : ¬ (9218868437227405312 < b % 9223372036854775808) := fun q => h ((isNaN_iff b).2 q)
  by_cases h1 : b / 4503599627370496 % 2048 = 2047
  ·rw [if_pos h1, if_pos h1, if_pos (by omega)]
  ·rw [if_neg h1, if_neg h1]
theorem law_class (N : Nat) (b : Nat) (k : Int -> Bool) : sQ31 N b 52 2047 1075 k = k (cls b) := by
 unfold sQ31 GQ31
 simp only [law_split, cls_cnb b]
 generalize cnb b / 4503599627370496 % 2048 = e
 generalize cnb b % 4503599627370496 = f
 have d1 : ((e : Int) == 2047) = decide (e = 2047) := by rw [Bool.eq_iff_iff, beq_iff_eq, decide_eq_true_iff]; omega
 have d2 : ((e : Int) == 0) = decide (e = 0) := by rw [Bool.eq_iff_iff, beq_iff_eq, decide_eq_true_iff]; omega
 have d3 : ((f : Int) == 0) = decide (f = 0) := by rw [Bool.eq_iff_iff, beq_iff_eq, decide_eq_true_iff]; omega
 simp only [bne, d1, d2, d3]
 by_cases h1 : e = 2047 <;> by_cases h2 : e = 0 <;> by_cases h3 : f = 0 <;> simp [h1, h2, h3]
theorem law_Class (N : Nat) (b : Nat) (k : Int -> Bool) : sQ78 N b k = k (cls b) := by
 unfold sQ78 GQ78
 simp only [sQ62, s_an_of, G_an_of, law_class]
theorem cnb_cn (a b : Nat) (_ha : a < 18446744073709551616 \/ True) : decide ((cnb a : Int) = cnb b) = decide (cn (some a) = cn (some b)) := by
 have hq : isNaN 9221120237041090561 = true := by decide
 rw [Bool.eq_iff_iff, decide_eq_true_iff, decide_eq_true_iff]
 have cf : ∀ c, cn (some c) = if isNaN c = true then none else some c := fun _ => rfl
 rw [cf, cf]
 unfold cnb
 by_cases h1 : isNaN a = true <;> by_cases h2 : isNaN b = true
 ·simp [h1, h2]
 ·rw [if_pos h1, if_neg h2, if_pos h1, if_neg h2]
  refine ⟨fun h => ?_, fun h => by cases h⟩
  have : b = 9221120237041090561 := by omega
  rw [this] at h2; exact absurd hq h2
 ·rw [if_neg h1, if_pos h2, if_neg h1, if_pos h2]
  refine ⟨fun h => ?_, fun h => by cases h⟩
  have : a = 9221120237041090561 := by omega
  rw [this] at h1; exact absurd hq h1
 ·simp only [h1, h2, if_false, Option.some.injEq, Bool.false_eq_true]; omega
theorem law_Abs (N : Nat) (b : Nat) (k : Fl -> Bool) : sQ94 N b k = k (absF (some b)) := by
 unfold sQ94 GQ94
 simp only [sQ62, sQ37, bitsN_andNot_top]
 rfl
set_option linter.unusedVariables false
theorem cond_k (b : Bool) (k : Bool -> Bool) : cond b (k true) (k false) = k b := by cases b <;> rfl
theorem and_true_of {a c : Bool} (h : a = true) : (a && c) = c := by rw [h]; rfl
def Small (N n : Nat) : Prop := n < N /\ n <= 17592186044416
theorem toNat_idx (i n j : Nat) : Int.toNat ((i : Int) * (n : Int) + (j : Int)) = i * n + j := by
 rw [<- Int.natCast_mul, <- Int.natCast_add, Int.toNat_natCast]
def of64 (l : List Int) : List Fl := l.map fun n => canon n.toNat
theorem of64_length (l : List Int) : (of64 l).length = l.length := by simp [of64]
theorem law_Of64 {N : Nat} (l : List Int) (hl : Small N l.length) (k : List Fl -> Bool) : sQ12 N l k = k (of64 l) := by
 unfold sQ12 GQ12 sQ37
 refine (iterG_eq (fun i => ((i : Int), (l.take i).map fun n => canon n.toNat)) l.length hl.1 (fun i hi K => ?_) (fun K => ?_) : _)
 ·have h2 := hl.2
  have e1 : (l.take (i + 1)).map (fun n => canon n.toNat) = (l.take i).map (fun n => canon n.toNat) ++ [canon (l.getD i 0).toNat] := by
   rw [List.take_succ_eq_append_getElem hi, List.map_append, List.getD_eq_getElem?_getD, List.getElem?_eq_getElem hi]; rfl
  simp only [st_z01_Of64_0, Int.toNat_natCast]
  rw [dec_true (by omega), cond_true, and_true_of (inR_of (by omega) (by omega)), and_true_of (dec_true (by simp; omega)), and_true_of (fits_ok (by omega) (by omega)), e1]
  rfl
 ·simp only [st_z01_Of64_0]
  rw [dec_false (by omega), cond_false, List.take_length]; rfl
def allFin (xs : List Fl) : Bool := allN (fun i => finF (xs.getD i none)) xs.length
theorem law_Finite {N : Nat} (xs : List Fl) (hl : Small N xs.length) (k : Bool -> Bool) : sQ24 N xs k = k (allFin xs) := by
 unfold sQ24 GQ24 sQ69
 rw [<- cond_k (allFin xs) k]
 refine (iterG_all (fun i => (i : Int)) (fun i => finF (xs.getD i none)) xs.length hl.1 (fun i hi K => ?_) (fun K => ?_) : _)
 ·have h2 := hl.2
  simp only [st_an_Finite_0, Int.toNat_natCast]
  rw [dec_true (by omega), cond_true, and_true_of (inR_of (by omega) (by omega)), and_true_of (fits_ok (by omega) (by omega))]
  have hc := clsF_fin (xs.getD i none)
  generalize clsF (xs.getD i none) = c at hc ⊢
  generalize finF (xs.getD i none) = f at hc ⊢
  have d1 : (c == 1) = decide (c = 1) := rfl
  have d2 : (c == 2) = decide (c = 2) := rfl
  rw [d1, d2]
  generalize decide (c = 1) = u at *
  generalize decide (c = 2) = v at *
  cases u <;> cases v <;> cases f <;> first | rfl | cases hc
 ·simp only [st_an_Finite_0]
  rw [dec_false (by omega), cond_false]
def bitsF : Fl -> Nat
 | none => 9221120237041090561
 | some b => cnb b
theorem order_self (d : Ieee.Datum) (h : d.isNaN = false) : d.order d = some .eq := by
 cases d with
 | nan s t => cases h
 | infinity s => simp [Ieee.Datum.order, compare, compareOfLessAndEq]
 | number s m i => simp [Ieee.Datum.order, compare, compareOfLessAndEq]
theorem feq_self' (b : Nat) (h : isNaN b = false) : (Ieee.double.order b b == some .eq) = true := by
 unfold Ieee.Format.order
 rw [order_self _ h]; rfl
theorem feq_self (b : Nat) : feq (some b) (some b) = !isNaN b := by
 cases h : isNaN b with
 | true => simp [feq, ford, order_nan_left b h]
 | false => simp only [feq, ford, Bool.not_false]; exact feq_self' b h
theorem law_Bits (N : Nat) (x : Fl) (k : Int -> Bool) : sQ64 N x k = k (bitsF x) := by
 unfold sQ64 GQ64 sQ13
 cases x with
 | none => rfl
 | some b =>
  rw [feq_self]
  simp only [bitsF, cnb]
  cases isNaN b <;> rfl
theorem nat_tmod (a b : Nat) : Int.tmod (a : Int) (b : Int) = ((a % b : Nat) : Int) := by
 rw [Int.tmod_eq_emod_of_nonneg (by omega)]; rfl
theorem law_Split (N : Nat) (x : Fl) (k : Bool -> Int -> Int -> Bool) : sQ44 N x k = k (Int.fdiv (bitsF x : Int) (2 ^ 63) == 1) ((bitsF x / 4503599627370496 % 2048 : Nat) : Int) ((bitsF x % 4503599627370496 : Nat) : Int) := by
 unfold sQ44 GQ44
 simp only [law_Bits]
 have e1 : (2 : Int) ^ 52 = ((4503599627370496 : Nat) : Int) := by decide
 have e2 : (2048 : Int) = ((2048 : Nat) : Int) := rfl
 have e3 : (4503599627370496 : Int) = ((4503599627370496 : Nat) : Int) := rfl
 rw [e1, e2, e3, nat_fdiv, nat_tmod, nat_tmod, fits_ok (by omega) (by omega)]
 rfl
theorem clsF_bits (x : Fl) : clsF x = if (bitsF x / 4503599627370496 % 2048) = 2047 then (if bitsF x % 4503599627370496 = 0 then 2 else 1) else if bitsF x / 4503599627370496 % 2048 = 0 then (if bitsF x % 4503599627370496 = 0 then 3 else 4) else 5 := by
 cases x with
 | none => decide
 | some b => exact cls_cnb b
theorem law_ref_Class (N : Nat) (x : Fl) (k : Int -> Bool) : sQ71 N x k = k (clsF x) := by
 unfold sQ71 GQ71 sQ56 GQ56
 simp only [law_Split, clsF_bits x]
 generalize bitsF x / 4503599627370496 % 2048 = e
 generalize bitsF x % 4503599627370496 = f
 have d1 : ((e : Int) == 2047) = decide (e = 2047) := by rw [Bool.eq_iff_iff, beq_iff_eq, decide_eq_true_iff]; omega
 have d2 : ((e : Int) == 0) = decide (e = 0) := by rw [Bool.eq_iff_iff, beq_iff_eq, decide_eq_true_iff]; omega
 have d3 : ((f : Int) == 0) = decide (f = 0) := by rw [Bool.eq_iff_iff, beq_iff_eq, decide_eq_true_iff]; omega
 simp only [bne, d1, d2, d3]
 by_cases h1 : e = 2047 <;> by_cases h2 : e = 0 <;> by_cases h3 : f = 0 <;> simp [h1, h2, h3]
theorem law_ref_Finite (N : Nat) (x : Fl) (k : Bool -> Bool) : sQ50 N x k = k (finF x) := by
 unfold sQ50 GQ50
 simp only [law_ref_Class]
 congr 1
 have h1 := clsF_fin x
 have h2 := clsF_lo x
 rw [Bool.eq_iff_iff, decide_eq_true_iff]
 cases hf : finF x with
 | true =>
  rw [hf] at h1
  simp only [Bool.not_true, Bool.or_eq_false_iff, decide_eq_false_iff_not] at h1
  exact ⟨fun _ => rfl, fun _ => by omega⟩
 | false =>
  rw [hf] at h1
  simp only [Bool.not_false, Bool.or_eq_true, decide_eq_true_eq] at h1
  exact ⟨fun _ => by omega, fun h => by cases h⟩
theorem law_AllFinite {N : Nat} (xs : List Fl) (hl : Small N xs.length) (k : Bool -> Bool) : sQ26 N xs k = k (allFin xs) := by
 unfold sQ26 GQ26
 rw [<- cond_k (allFin xs) k]
 refine (iterG_all (fun i => (i : Int)) (fun i => finF (xs.getD i none)) xs.length hl.1 (fun i hi K => ?_) (fun K => ?_) : _)
 ·have h2 := hl.2
  simp only [stQ106, Int.toNat_natCast, law_ref_Finite]
  rw [dec_true (by omega), cond_true, and_true_of (inR_of (by omega) (by omega)), and_true_of (fits_ok (by omega) (by omega))]
  cases finF (xs.getD i none) <;> rfl
 ·simp only [stQ106]
  rw [dec_false (by omega), cond_false]
theorem bitsF_cn (x y : Fl) : ((bitsF x : Int) == bitsF y) = decide (cn x = cn y) := by
 have hq : cn (some 9221120237041090561) = none := by decide
 have hb : cnb 9221120237041090561 = 9221120237041090561 := by decide
 have key : ∀ x, ∃ a, bitsF x = cnb a /\ cn x = cn (some a) := by
  intro x
  cases x with
  | none => exact ⟨9221120237041090561, hb.symm, hq.symm⟩
  | some b => exact ⟨b, rfl, rfl⟩
 obtain ⟨a, e1, e2⟩ := key x
 obtain ⟨b, e3, e4⟩ := key y
 rw [e1, e2, e3, e4, <- cnb_cn a b (.inr trivial)]
 rfl
theorem law_ref_Same (N : Nat) (x y : Fl) (k : Bool -> Bool) : sQ53 N x y k = k (decide (cn x = cn y)) := by
 unfold sQ53 GQ53
 simp only [law_Bits, bitsF_cn]
theorem iterG_eq0 {σ : Type} {step : σ -> (σ -> Bool) -> Bool} {s : σ} (C : Nat -> σ) (n : Nat) {N : Nat} (h0 : s = C 0) (hn : n < N) {out : Bool} (hs : ∀ i, i < n -> ∀ K : σ -> Bool, step (C i) K = K (C (i + 1))) (hx : ∀ K, step (C n) K = out) : iterG N step s = out := by
 subst h0; exact iterG_eq C n hn hs hx
theorem iterG_all0 {σ : Type} {step : σ -> (σ -> Bool) -> Bool} {s : σ} (C : Nat -> σ) (p : Nat -> Bool) (n : Nat) {N : Nat} (h0 : s = C 0) (hn : n < N) {ex out : Bool}
  (hs : ∀ i, i < n -> ∀ K : σ -> Bool, step (C i) K = cond (p i) (K (C (i + 1))) ex) (hx : ∀ K, step (C n) K = out) : iterG N step s = cond (allN p n) out ex := by
 subst h0; exact iterG_all C p n hn hs hx
theorem idx_lt {n i j : Nat} (hi : i < n) (hj : j < n) : i * n + j < n * n := by
 have : (i + 1) * n <= n * n := Nat.mul_le_mul_right n hi
 rw [Nat.add_mul] at this; omega
theorem nn_le {n : Nat} (h : n <= 12) : n * n <= 144 := Nat.mul_le_mul h h
theorem in_le {n i : Nat} (h : n <= 12) (hi : i < n) : i * n <= 144 := Nat.mul_le_mul (by omega : i <= 12) h
theorem ne_dec (a b : Int) : (a != b) = !decide (a = b) := rfl
theorem law_size (N : Nat) (n : Int) (k : Bool -> Bool) : sQ59 N n k = k (decide (0 <= n /\ n <= 12)) := by
 unfold sQ59 GQ59
 by_cases h1 : 0 <= n
 ·rw [dec_true (p := n >= 0) h1]; simp [h1]
 ·rw [dec_false (p := n >= 0) h1]; simp [h1]
def chk (r c : Int) (xs : List Fl) : Int := if (0 <= r /\ r <= 12) /\ (0 <= c /\ c <= 12) then (if (xs.length : Int) = r * c then (if allFin xs = true then 0 else 4) else 3) else 1
theorem rc_fits {r c : Int} (hr : 0 <= r /\ r <= 12) (hc : 0 <= c /\ c <= 12) : fits .i64 (r * c) = true := by
 have h1 : 0 <= r * c := Int.mul_nonneg hr.1 hc.1
 have h2 : r * c <= 12 * 12 := Int.mul_le_mul hr.2 hc.2 hc.1 (by decide)
 exact fits_ok (by omega) (by omega)
theorem law_Check {N : Nat} (r c : Int) (xs : List Fl) (hl : Small N xs.length) (k : Int -> Bool) : sQ20 N r c xs k = k (chk r c xs) := by
 unfold sQ20 GQ20 chk
 simp only [law_size, law_Finite xs hl]
 by_cases hr : 0 <= r /\ r <= 12
 ·by_cases hc : 0 <= c /\ c <= 12
  ·rw [dec_true hr, dec_true hc, if_pos ⟨hr, hc⟩, ne_dec, rc_fits hr hc]
   by_cases hx : (xs.length : Int) = r * c
   ·rw [dec_true hx, if_pos hx]; cases allFin xs <;> rfl
   ·rw [dec_false hx, if_neg hx]; rfl
  ·rw [dec_true hr, dec_false hc, if_neg (fun h => hc h.2)]; rfl
 ·rw [dec_false hr, if_neg (fun h => hr h.1)]; rfl
theorem chk_zero {r c : Int} {xs : List Fl} : chk r c xs = 0 ↔ ((0 <= r /\ r <= 12) /\ (0 <= c /\ c <= 12)) /\ (xs.length : Int) = r * c /\ allFin xs = true := by
 unfold chk
 split
 ·split
  ·split
   ·simp [*]
   ·simp [*]
  ·simp [*]
 ·simp [*]
def elt (xs : List Fl) (n i j : Nat) : Fl := xs.getD (i * n + j) none
def upP (xs : List Fl) (n i j : Nat) : Bool := decide (cn (elt xs n i j) = cn (some 0))
def lowRow (xs : List Fl) (n i : Nat) : Bool := allN (fun d => upP xs n i (i + 1 + d)) (n - (i + 1))
def diaP (xs : List Fl) (n i : Nat) : Bool := fgt (elt xs n i i) (some 0)
set_option linter.unusedVariables false
set_option linter.unusedVariables false
theorem mul_num (V x Bk bk i k : Nat) : V % 4294967296 ^ (i + k + 1) + x * (Bk + 4294967296 ^ k * bk) * 4294967296 ^ i = (V % 4294967296 ^ (i + k) + x * Bk * 4294967296 ^ i) + 4294967296 ^ (i + k) * (V / 4294967296 ^ (i + k) % 4294967296 + x * bk) := by
 rw [Nat.mod_pow_succ, Nat.pow_add]
 grind
theorem carry_step (V x Bk bk i k : Nat) : (V % 4294967296 ^ (i + k + 1) + x * (Bk + 4294967296 ^ k * bk) * 4294967296 ^ i) / 4294967296 ^ (i + k + 1) = ((V % 4294967296 ^ (i + k) + x * Bk * 4294967296 ^ i) / 4294967296 ^ (i + k) + V / 4294967296 ^ (i + k) % 4294967296 + x * bk) / 4294967296 := by
 rw [mul_num, Nat.pow_succ, <- Nat.div_div_eq_div_mul, Nat.add_mul_div_left _ _ (Nat.pow_pos (by decide)), Nat.add_assoc]
theorem carry_digit (V x Bk bk i k R : Nat) : (V + x * (Bk + 4294967296 ^ k * bk + 4294967296 ^ (k + 1) * R) * 4294967296 ^ i) / 4294967296 ^ (i + k) % 4294967296 = ((V % 4294967296 ^ (i + k) + x * Bk * 4294967296 ^ i) / 4294967296 ^ (i + k) + V / 4294967296 ^ (i + k) % 4294967296 + x * bk) % 4294967296 := by
 have e : V + x * (Bk + 4294967296 ^ k * bk + 4294967296 ^ (k + 1) * R) * 4294967296 ^ i = (V % 4294967296 ^ (i + k + 1) + x * (Bk + 4294967296 ^ k * bk) * 4294967296 ^ i) + 4294967296 ^ (i + k + 1) * (V / 4294967296 ^ (i + k + 1) + x * R) := by
  have h := Nat.div_add_mod V (4294967296 ^ (i + k + 1))
  have h2 : 4294967296 ^ (i + k + 1) = 4294967296 ^ (k + 1) * 4294967296 ^ i := by rw [<- Nat.pow_add]; congr 1; omega
  generalize V / 4294967296 ^ (i + k + 1) = q at *
  generalize V % 4294967296 ^ (i + k + 1) = r at *
  rw [<- h, h2]
  grind
 rw [digit_of e, mul_num, Nat.add_mul_div_left _ _ (Nat.pow_pos (by decide)), Nat.add_assoc]
theorem carry_lt {V x Bk i k : Nat} (hx : x < 4294967296) (hB : Bk < 4294967296 ^ k) : (V % 4294967296 ^ (i + k) + x * Bk * 4294967296 ^ i) / 4294967296 ^ (i + k) < 4294967296 := by
 rw [Nat.div_lt_iff_lt_mul (Nat.pow_pos (by decide))]
 have h1 : V % 4294967296 ^ (i + k) < 4294967296 ^ (i + k) := Nat.mod_lt _ (Nat.pow_pos (by decide))
 have h2 : x * Bk <= 4294967295 * 4294967296 ^ k := Nat.mul_le_mul (by omega) (by omega)
 have h3 : x * Bk * 4294967296 ^ i <= 4294967295 * 4294967296 ^ (i + k) := by
  have := Nat.mul_le_mul_right (4294967296 ^ i) h2
  rwa [Nat.mul_assoc 4294967295, <- Nat.pow_add, Nat.add_comm k i] at this
 omega
theorem dl_getD (S : Nat) {L i : Nat} (h : i < L) : (dl S L).getD i 0 = ((S / 4294967296 ^ i % 4294967296 : Nat) : Int) := by
 induction L with
 | zero => omega
 | succ L ih =>
  show ((dl S L) ++ [_]).getD i 0 = _
  rw [List.getD_eq_getElem?_getD]
  by_cases hi : i < L
  ·rw [List.getElem?_append_left (by rw [dl_length]; exact hi), <- List.getD_eq_getElem?_getD, ih hi]
  ·have : i = L := by omega
   subst this
   rw [List.getElem?_append_right (by rw [dl_length]; exact Nat.le_refl _), dl_length, Nat.sub_self]; rfl
theorem drop_cons {l : List Int} {n : Nat} (h : n < l.length) : l.drop n = l.getD n 0 :: l.drop (n + 1) := by
 rw [List.drop_eq_getElem_cons h, List.getD_eq_getElem?_getD, List.getElem?_eq_getElem h]; rfl
theorem mval_take_succ' {b : List Int} {k : Nat} : mval (b.take (k + 1)) = mval (b.take k) + 4294967296 ^ k * (b.getD k 0).toNat := mval_take_all k
theorem dl_mid_set (U V L p : Nat) (h : p < L) : (dl U p ++ (dl V L).drop p).set p ((U / 4294967296 ^ p % 4294967296 : Nat) : Int) = dl U (p + 1) ++ (dl V L).drop (p + 1) := by
 rw [drop_cons (by rw [dl_length]; exact h), set_append_at _ _ _ _ _ (by rw [dl_length])]
 show _ = (dl U p ++ [_]) ++ _
 rw [List.append_assoc]; rfl
theorem dl_mid_get (U V L p : Nat) (h : p < L) : (dl U p ++ (dl V L).drop p).getD p 0 = ((V / 4294967296 ^ p % 4294967296 : Nat) : Int) := by
 rw [drop_cons (by rw [dl_length]; exact h), getD_append_at (by rw [dl_length]), dl_getD V h]
theorem dl_mid_len (U V L p : Nat) (h : p <= L) : (dl U p ++ (dl V L).drop p).length = L := by simp [dl_length]; omega
theorem dl_beyond {U L p : Nat} (hU : U < 4294967296 ^ p) (h : p <= L) {V : Nat} (hV : V < 4294967296 ^ p) : dl U p ++ (dl V L).drop p = dl U L := by
 induction L with
 | zero =>
  have : p = 0 := by omega
  subst this; rfl
 | succ L ih =>
  by_cases hp : p = L + 1
  ·subst hp; rw [List.drop_of_length_le (by rw [dl_length]; omega), List.append_nil]
  ·have hpL : p <= L := by omega
   have e : ∀ X, X < 4294967296 ^ p -> dl X (L + 1) = dl X L ++ [0] := by
    intro X hX
    show dl X L ++ [((X / 4294967296 ^ L % 4294967296 : Nat) : Int)] = _
    rw [Nat.div_eq_of_lt (Nat.lt_of_lt_of_le hX (Nat.pow_le_pow_right (by decide) hpL))]; rfl
   rw [e V hV, e U hU, List.drop_append_of_le_length (by rw [dl_length]; exact hpL), <- List.append_assoc, ih hpL]
theorem mval_bound {a : List Int} (ha : InW a) (i : Nat) : mval (a.take i) < 4294967296 ^ i := mval_take_lt ha i
theorem mul_lt_pow {x y i j : Nat} (hx : x < 4294967296 ^ i) (hy : y < 4294967296 ^ j) : x * y < 4294967296 ^ (i + j) := by
 rw [Nat.pow_add]
 exact Nat.mul_lt_mul'' hx hy
theorem law_times {N : Nat} (a b : List Int) (ha : InW a) (hb : InW b) (hN : a.length + b.length + 2 < N) (hs : a.length + b.length <= 17592186044416) (k : List Int -> Bool) : sQ65 N a b k = k (digs (mval a * mval b)) := by
  unfold sQ65 GQ65
  have eL : Int.toNat (((a.length : Nat) : Int) + ((b.length : Nat) : Int)) = a.length + b.length := by omega
  rw [and_tr (fits_ok (by omega) (by omega)), and_tr (mkOk_ok (by omega) (by omega) (by omega) (by omega)), eL]
  let L := a.length + b.length
  let B := mval b
  have hB : B < 4294967296 ^ b.length := mval_lt hb
  refine iterG_from0 (fun i => ((i : Int), dl (mval (a.take i) * B) L)) a.length ?_ (by omega) (fun i hi K => ?_) (fun K => ?_)
  · show ((0 : Int), List.replicate L (0 : Int)) = (((0 : Nat) : Int), dl (mval (a.take 0) * B) L)
    have := dl_of_zero L 0
    rw [Nat.mul_zero] at this
    rw [List.take_zero, show mval [] = 0 from rfl, Nat.zero_mul, this]; rfl
  · simp only [st_z00_times_0]
    rw [decide_eq_true (by omega : (i : Int) < a.length), cond_true]
    have hx := ha.at (i := i)
    let V := mval (a.take i) * B
    let x := (a.getD i 0).toNat
    let U := mval (a.take (i + 1)) * B
    have hU : U = V + x * B * 4294967296 ^ i := by
      simp only [U, V, x]
      rw [mval_take_succ']
      grind
    have hV : V < 4294967296 ^ (i + b.length) := mul_lt_pow (mval_bound ha i) hB
    have hUl : U < 4294967296 ^ (i + 1 + b.length) := mul_lt_pow (mval_bound ha (i + 1)) hB
    let c := fun j => (V % 4294967296 ^ (i + j) + x * mval (b.take j) * 4294967296 ^ i) / 4294967296 ^ (i + j)
    refine iterG_from0 (fun j => (((c j : Nat) : Int), (j : Int), dl U (i + j) ++ (dl V L).drop (i + j))) b.length ?_ (by omega) (fun j hj K' => ?_) (fun K' => ?_)
    · show ((0 : Int), (0 : Int), dl V L) = _
      have h0 : c 0 = 0 := by
        simp only [c, List.take_zero, show mval [] = 0 from rfl, Nat.mul_zero, Nat.zero_mul, Nat.add_zero]
        exact Nat.div_eq_of_lt (Nat.mod_lt _ (Nat.pow_pos (by decide)))
      have hlow : dl U i = dl V i := by
        have : ∀ n, n <= i -> dl U n = dl V n := by
          intro n
          induction n with
          | zero => intro _; rfl
          | succ n ih =>
            intro hn
            show dl U n ++ [_] = dl V n ++ [_]
            rw [ih (by omega)]
            congr 3
            have : U = V + 4294967296 ^ (n + 1) * (x * B * 4294967296 ^ (i - (n + 1))) := by
              rw [hU, Nat.mul_left_comm, <- Nat.pow_add, show n + 1 + (i - (n + 1)) = i by omega]
            exact digit_of this
        exact this i (Nat.le_refl _)
      have hsp : dl V i ++ (dl V L).drop i = dl V L := by
        have : ∀ n, i <= n -> dl V i ++ (dl V n).drop i = dl V n := by
          intro n
          induction n with
          | zero => intro h; have : i = 0 := by omega
                    subst this; rfl
          | succ n ih =>
            intro h
            by_cases hn : i = n + 1
            · subst hn; rw [List.drop_of_length_le (by rw [dl_length]; omega), List.append_nil]
            · show dl V i ++ (dl V n ++ [_]).drop i = dl V n ++ [_]
              rw [List.drop_append_of_le_length (by rw [dl_length]; omega), <- List.append_assoc, ih (by omega)]
        exact this L (by simp only [L]; omega)
      rw [h0, Nat.add_zero, hlow, hsp]; rfl
    · have hy := hb.at (i := j)
      have hp : i + j < L := by simp only [L]; omega
      have hlen := dl_mid_len U V L (i + j) (by omega)
      have hget := dl_mid_get U V L (i + j) hp
      have hset := dl_mid_set U V L (i + j) hp
      have hc := carry_lt (V := V) (x := x) (i := i) (k := j) (Bk := mval (b.take j)) (by simp only [x]; omega) (mval_bound hb j)
      have hstep := carry_step V x (mval (b.take j)) (b.getD j 0).toNat i j
      obtain ⟨R, hR⟩ := mval_split_ge b (j + 1)
      have hdig := carry_digit V x (mval (b.take j)) (b.getD j 0).toNat i j R
      rw [<- mval_take_succ'] at hstep hdig
      rw [<- hR] at hdig
      have hUe : V + x * mval b * 4294967296 ^ i = U := hU.symm
      rw [hUe] at hdig
      have hxy : x * (b.getD j 0).toNat <= 4294967295 * 4294967295 := Nat.mul_le_mul (by simp only [x]; omega) (by omega)
      have eidx : Int.toNat ((i : Int) + (j : Int)) = i + j := by omega
      have hcj : ∀ n, c n = (V % 4294967296 ^ (i + n) + x * mval (b.take n) * 4294967296 ^ i) / 4294967296 ^ (i + n) := fun _ => rfl
      have hax : a.getD i 0 = (x : Int) := by simp only [x]; omega
      have hby : b.getD j 0 = ((b.getD j 0).toNat : Int) := by omega
      simp only [st_z00_times_2, Int.toNat_natCast, eidx, hlen, hget]
      rw [decide_eq_true (by omega : (j : Int) < b.length), cond_true, and_tr (inR_of (by omega) (by omega)), and_tr (inR_of (by omega) (by omega)), and_tr (fits_ok (by omega) (by omega)), and_tr (inR_of (by omega) (by omega)), and_tr (decide_eq_true (by omega)), and_tr (fits_ok (by omega) (by omega)), and_tr (inR_of (by omega) (by omega)), and_tr (decide_eq_true (by omega)), and_tr (fits_ok (by omega) (by omega))]
      have ec1 : c (j + 1) = (c j + V / 4294967296 ^ (i + j) % 4294967296 + x * (b.getD j 0).toNat) / 4294967296 := hstep
      have ed : U / 4294967296 ^ (i + j) % 4294967296 = (c j + V / 4294967296 ^ (i + j) % 4294967296 + x * (b.getD j 0).toNat) % 4294967296 := hdig
      have hcl : c j < 4294967296 := hc
      rw [ed] at hset
      have vlt : V / 4294967296 ^ (i + j) % 4294967296 < 4294967296 := Nat.mod_lt _ (by decide)
      rw [hax, hby, show i + (j + 1) = i + j + 1 by omega, <- hset]
      generalize V / 4294967296 ^ (i + j) % 4294967296 = v at *
      generalize (b.getD j 0).toNat = y at *
      generalize dl U (i + j) ++ (dl V L).drop (i + j) = l at *
      have et : ∀ q : Nat, q = c j + v + x * y -> IntKind.wrap .u64 ((IntKind.wrap .u64 ((IntKind.wrap .u64 ((IntKind.wrap .u64 (x : Int)) * (IntKind.wrap .u64 (y : Int)))) + (IntKind.wrap .u64 (v : Int)))) + ((c j : Nat) : Int)) = (q : Int) := by
        intro q hq
        have exy : ((x : Int)) * (y : Int) = ((x * y : Nat) : Int) := by rw [Int.natCast_mul]
        have hxl : x < 4294967296 := by simp only [x]; omega
        have hyl : y < 4294967296 := by omega
        have w1 : IntKind.wrap .u64 (x : Int) = x := by rw [wrap64]; omega
        have w2 : IntKind.wrap .u64 (y : Int) = y := by rw [wrap64]; omega
        rw [w1, w2, exy, wrap64, wrap64, wrap64, wrap64]
        omega
      rw [et _ rfl, ec1, fdiv32, wrap32]
      congr 1
    · simp only [st_z00_times_2]
      rw [decide_eq_false (by omega : ¬ (b.length : Int) < b.length), cond_false]
      have hlen := dl_mid_len U V L (i + b.length) (by simp only [L]; omega)
      have hset := dl_mid_set U V L (i + b.length) (by simp only [L]; omega)
      have eidx : Int.toNat ((i : Int) + (b.length : Int)) = i + b.length := by omega
      have hLe : i + b.length < L := by simp only [L]; omega
      have hc : c b.length = U / 4294967296 ^ (i + b.length) := by
        simp only [c]
        rw [List.take_length, Nat.mod_eq_of_lt hV, hU]
      have hcl : U / 4294967296 ^ (i + b.length) < 4294967296 := by
        rw [Nat.div_lt_iff_lt_mul (Nat.pow_pos (by decide))]
        have : i + 1 + b.length = i + b.length + 1 := by omega
        rw [this, Nat.pow_succ] at hUl
        omega
      have ew : IntKind.wrap .u32 ((c b.length : Nat) : Int) = ((U / 4294967296 ^ (i + b.length) % 4294967296 : Nat) : Int) := by rw [wrap32, hc]; omega
      have hfin := dl_beyond (U := U) (V := V) (L := L) (p := i + b.length + 1) (by rw [show i + b.length + 1 = i + 1 + b.length by omega]; exact hUl) (by omega) (Nat.lt_of_lt_of_le hV (Nat.pow_le_pow_right (by decide) (by omega)))
      rw [and_tr (fits_ok (by omega) (by omega)), eidx, hlen, and_tr (inR_of (by omega) (by omega)), and_tr (decide_eq_true (by omega)), and_tr (fits_ok (by omega) (by omega)), ew, hset, hfin]
      rfl
  · simp only [st_z00_times_0]
    rw [decide_eq_false (by omega : ¬ (a.length : Int) < a.length), cond_false, List.take_length, law_cut_take _ (dl_inW _ _) (by rw [dl_length]; simp only [L]; omega) (by rw [dl_length]; simp only [L]; omega)]
    rw [digs_dl (mul_lt_pow (mval_lt ha) hB)]
theorem ival_mul (g h : Bool) (m n : Nat) : ival (g != h) (m * n) = ival g m * ival h n := by
 unfold ival
 rw [Int.natCast_mul]
 cases g <;> cases h <;> simp [Int.neg_mul, Int.mul_neg]
theorem cut_full (n : Nat) : cutLen (digs n) (digs n).length = (digs n).length := by
 have ht : (digs n).take (cutLen (digs n) (digs n).length) = digs n := by rw [take_cutLen (digs_inW n), mval_digs]
 have hc := cutLen_le (digs n) (digs n).length
 have := congrArg List.length ht
 rw [List.length_take] at this; omega
theorem neg_val (g : Bool) (n : Nat) (k : Bool -> List Int -> Bool) : cond ((!g) == true) (k (decide (((digs n).length : Int) > 0)) (digs n)) (k false (digs n)) = intK (-(ival g n)) k := by
 rw [put_k, put_val _ _ k]
 congr 1
 unfold ival; cases g <;> simp
theorem law_Neg_r {N : Nat} (g : Bool) (n : Nat) (hN : Short N (digs n)) (k : Bool -> List Int -> Bool) : sQ55 N g (digs n) k = intK (-(ival g n)) k := by
 unfold sQ55 GQ55 sQ58 GQ58
 obtain ⟨h1, h2⟩ := hN
 rw [List.nil_append, decide_eq_true (by omega), Bool.true_and, law_cut_w _ (by omega) (by omega), cut_full]
 simp only [List.drop_zero, List.take_length]
 rw [decide_eq_true (by omega : 0 + (digs n).length <= (digs n).length), Bool.true_and]
 exact neg_val g n k
def Bits (B : Nat) (n : Nat) : Prop := n < 2 ^ B
theorem digs_len_le : ∀ (j n : Nat), n < 4294967296 ^ j -> (digs n).length <= j
 | 0, n, h => by
  have : n = 0 := by simp at h; exact h
  subst this; rw [digs_zero]; exact Nat.le_refl _
 | j + 1, n, h => by
  by_cases h0 : n = 0
  ·subst h0; rw [digs_zero]; simp
  ·rw [digs_pos h0, List.length_cons]
   have : n / 4294967296 < 4294967296 ^ j := Nat.div_lt_of_lt_mul (by rw [Nat.pow_succ] at h; omega)
   have := digs_len_le j _ this
   omega
theorem pow32 (j : Nat) : 4294967296 ^ j = 2 ^ (32 * j) := by rw [Nat.pow_mul]
theorem bits_len {B n : Nat} (h : Bits B n) : (digs n).length <= B / 32 + 1 := by
 refine digs_len_le _ _ ?_
 rw [pow32]
 exact Nat.lt_of_lt_of_le h (Nat.pow_le_pow_right (by decide) (by omega))
theorem bits_short {N B n : Nat} (hN : 1000 <= N) (hB : B <= 31000) (h : Bits B n) : Short N (digs n) := by
 have := bits_len h
 exact ⟨by omega, by omega⟩
theorem bits_mono {A B n : Nat} (h : Bits A n) (hAB : A <= B) : Bits B n := Nat.lt_of_lt_of_le h (Nat.pow_le_pow_right (by decide) hAB)
theorem bits_mul {A B m n : Nat} (h : Bits A m) (g : Bits B n) : Bits (A + B) (m * n) := by
 unfold Bits; rw [Nat.pow_add]; exact Nat.mul_lt_mul'' h g
theorem bits_shift {A m : Nat} (h : Bits A m) (s : Nat) : Bits (A + s) (m * 2 ^ s) := by
 unfold Bits; rw [Nat.pow_add]; exact Nat.mul_lt_mul_of_pos_right h (Nat.two_pow_pos s)
theorem bits_add {A m n : Nat} (h : Bits A m) (g : Bits A n) : Bits (A + 1) (m + n) := by
 unfold Bits at *; rw [Nat.pow_succ]; omega
theorem bits_le {A m n : Nat} (h : Bits A m) (g : n <= m) : Bits A n := Nat.lt_of_le_of_lt g h
theorem bits_shOk {N B n s : Nat} (hN : 1000 <= N) (hB : B + s <= 31000) (h : Bits B n) : shOk N n s := by
 have h1 := bits_len h
 exact ⟨by omega, by omega, by omega, bits_short hN hB (bits_shift h s)⟩
def exK (z : Int × Int) (k : Int -> Bool -> List Int -> Bool) : Bool := k z.1 (decide (z.2 < 0)) (digs z.2.natAbs)
def exMul (x y : Int × Int) : Int × Int := (x.1 + y.1, x.2 * y.2)
def exNeg (x : Int × Int) : Int × Int := (x.1, -x.2)
def exLow (x : Int × Int) (e : Int) : Int := x.2 * 2 ^ (x.1 - e).toNat
def exAdd (x y : Int × Int) : Int × Int := if x.2 = 0 then y else if y.2 = 0 then x else (min x.1 y.1, exLow x (min x.1 y.1) + exLow y (min x.1 y.1))
def Ex (E B : Nat) (x : Int × Int) : Prop := -(E : Int) <= x.1 /\ x.1 <= E /\ Bits B x.2.natAbs
def sgnI (z : Int) : Int := if z = 0 then 0 else if z < 0 then -1 else 1
theorem imm_min (a b : Int) : imm false a b = min a b := by
 unfold imm; simp only [cond_false]
 by_cases h : b < a
 ·rw [decide_eq_true h, cond_true]; omega
 ·rw [decide_eq_false h, cond_false]; omega
set_option linter.unusedVariables false
def mvalq : List Int -> Nat
 | [] => 0
 | x :: r => x.toNat + 18446744073709551616 * mvalq r
def InWq (m : List Int) : Prop := ∀ x ∈ m, 0 <= x /\ x < 18446744073709551616
def digsq (n : Nat) : List Int := if h : n = 0 then [] else ((n % 18446744073709551616 : Nat) : Int) :: digsq (n / 18446744073709551616)
termination_by n
decreasing_by omega
theorem digs_zeroq : digsq 0 = [] := by rw [digsq]; simp
theorem digs_posq {n : Nat} (h : n ≠ 0) : digsq n = ((n % 18446744073709551616 : Nat) : Int) :: digsq (n / 18446744073709551616) := by
 rw [digsq]; simp [h]
theorem InWq.take {m : List Int} (h : InWq m) (n : Nat) : InWq (m.take n) := fun x hx => h x (List.mem_of_mem_take hx)
theorem InWq.drop {m : List Int} (h : InWq m) (n : Nat) : InWq (m.drop n) := fun x hx => h x (List.mem_of_mem_drop hx)
theorem InWq.cons {x : Int} {m : List Int} (h : InWq (x :: m)) : (0 <= x /\ x < 18446744073709551616) /\ InWq m := ⟨h x (by simp), fun y hy => h y (by simp [hy])⟩
theorem InWq.at {m : List Int} (h : InWq m) {i : Nat} : 0 <= m.getD i 0 /\ m.getD i 0 < 18446744073709551616 := by
 rw [List.getD_eq_getElem?_getD]
 by_cases hi : i < m.length
 ·rw [List.getElem?_eq_getElem hi]; exact h _ (List.getElem_mem hi)
 ·rw [List.getElem?_eq_none (by omega)]; exact ⟨by decide, by decide⟩
set_option linter.unusedVariables false
def Shortq (N : Nat) (l : List Int) : Prop := l.length + 3 < N /\ l.length <= 1099511627776
set_option linter.unusedVariables false
theorem and32 (n : Nat) : bitsN .and .u64 (n : Int) 4294967295 = ((n % 4294967296 : Nat) : Int) := by
 have h := bitsN_and_mask n 32 (by decide)
 have e1 : ((2 ^ 32 - 1 : Nat) : Int) = 4294967295 := by decide
 have e2 : (2 : Nat) ^ 32 = 4294967296 := by decide
 rw [e1, e2] at h
 exact h
set_option linter.unusedVariables false
theorem pow2_64 (n : Nat) : 2 ^ n = 18446744073709551616 ^ (n / 64) * 2 ^ (n % 64) := by
 have e : (18446744073709551616 : Nat) = 2 ^ 64 := by decide
 rw [e, <- Nat.pow_mul, <- Nat.pow_add]
 congr 1; omega
set_option linter.unusedVariables false
theorem digsq_getD : ∀ (i V : Nat), (digsq V).getD i 0 = ((V / 18446744073709551616 ^ i % 18446744073709551616 : Nat) : Int)
 | i, V => by
  by_cases h : V = 0
  ·subst h; rw [digs_zeroq]; simp
  ·rw [digs_posq h]
   cases i with
   | zero => simp
   | succ i =>
    show (digsq (V / 18446744073709551616)).getD i 0 = _
    rw [digsq_getD i (V / 18446744073709551616), Nat.pow_succ, Nat.mul_comm, <- Nat.div_div_eq_div_mul]
set_option linter.unusedVariables false
theorem odd_form : ∀ n : Nat, n ≠ 0 -> ∃ t c, n = 2 ^ t * (2 * c + 1) := by
 intro n
 induction n using Nat.strongRecOn with
 | ind n ih =>
  intro h0
  by_cases h : n % 2 = 0
  ·obtain ⟨t, c, hc⟩ := ih (n / 2) (by omega) (by omega)
   exact ⟨t + 1, c, by rw [Nat.pow_succ, Nat.mul_comm (2 ^ t) 2, Nat.mul_assoc, <- hc]; omega⟩
  ·exact ⟨0, n / 2, by rw [Nat.pow_zero, Nat.one_mul]; omega⟩
set_option linter.unusedVariables false
theorem law_Sign_r (N : Nat) (g : Bool) (n : Nat) (k : Int -> Bool) : sQ36 N g (digs n) k = k (if n = 0 then 0 else if g = true then -1 else 1) := by
 unfold sQ36 GQ36
 rw [digs_nil]
 by_cases h : n = 0
 ·rw [decide_eq_true h, if_pos h]; rfl
 ·rw [decide_eq_false h, if_neg h]; cases g <;> rfl
set_option linter.unusedVariables false
set_option linter.unusedVariables false
set_option linter.unusedVariables false
set_option linter.unusedVariables false
set_option linter.unusedVariables false
theorem short_pow {N n j : Nat} (hN : 1000 <= N) (hj : j <= 900) (h : n < 4294967296 ^ j) : Short N (digs n) := by
 have := digs_len_le j n h
 exact ⟨by omega, by omega⟩
theorem short_small {N n : Nat} (hN : 1000 <= N) (h : n < 18446744073709551616) : Short N (digs n) := short_pow (j := 2) hN (by decide) (by
 have : (4294967296 : Nat) ^ 2 = 18446744073709551616 := by decide
 omega)
theorem or0 (n : Nat) (h : n < 18446744073709551616) : bitsN .or .u64 0 (n : Int) = n := by
 have := bitsN_or_disj64 0 n 0 (by decide) (by omega)
 simpa using this
theorem orTop (n : Nat) (h : n < 9223372036854775808) : bitsN .or .u64 (n : Int) 9223372036854775808 = ((9223372036854775808 + n : Nat) : Int) := by
 have := bitsN_or_disj64 n 1 63 (by simpa using h) (by simp; omega)
 simpa using this
theorem law_NewInt1 {N : Nat} (hN : 1000 <= N) (k : Bool -> List Int -> Bool) : sQ47 N 1 k = k false (digs 1) := law_NewInt (N := N) 1 (by decide) (short_small hN (by decide)) (by omega) k
set_option linter.unusedVariables false
theorem and11 (n : Nat) : bitsN .and .u64 (n : Int) 2047 = ((n % 2048 : Nat) : Int) := by
 have := bitsN_and_mask n 11 (by decide)
 simpa using this
theorem fdiv52 (b : Nat) : Int.fdiv (b : Int) (2 ^ 52) = ((b / 4503599627370496 : Nat) : Int) := by
 rw [show (2 : Int) ^ 52 = ((4503599627370496 : Nat) : Int) by decide, nat_fdiv]
theorem nearest_le (s : Bool) (m : Nat) (i : Int) : ∃ r, Ieee.double.nearest s m i = Ieee.double.word s r /\ r <= 9218868437227405312 := by
 unfold Format.nearest
 split
 ·exact ⟨0, rfl, by omega⟩
 ·rw [infRung_d]; exact ⟨_, rfl, Nat.min_le_right _ _⟩
theorem nearest_W64 (s : Bool) (m : Nat) (i : Int) : W64 (Ieee.double.nearest s m i) := by
 obtain ⟨r, h, hr⟩ := nearest_le s m i
 rw [h]; exact word_W64 s (by omega)
def sclF (x : Fl) (k : Int) : Fl := match x with
 | some b => match Ieee.double.read b with
  | .number s m i => some (Ieee.double.nearest s m (i + k))
  | _ => some b
 | none => none
theorem sclF_num {b : Nat} {s : Bool} {m : Nat} {i : Int} (h : Ieee.double.read b = .number s m i) (k : Int) : sclF (some b) k = some (Ieee.double.nearest s m (i + k)) := by
 unfold sclF; simp only [h]
set_option linter.unusedVariables false
theorem flt_w (a b : Nat) : flt (some a) (some b) = ((Ieee.double.read a).order (Ieee.double.read b) == some .lt) := rfl
theorem feq_w (a b : Nat) : feq (some a) (some b) = ((Ieee.double.read a).order (Ieee.double.read b) == some .eq) := rfl
theorem fgt_w (a b : Nat) : fgt (some a) (some b) = ((Ieee.double.read a).order (Ieee.double.read b) == some .gt) := rfl
theorem fmul_w (a b : Nat) : fmul (some a) (some b) = ((Ieee.double.read a).product (Ieee.double.read b)).map Ieee.double.write := rfl
theorem absF_num {b : Nat} (hb : W64 b) {s : Bool} {m : Nat} {i : Int} (h : Ieee.double.read b = .number s m i) : ∃ c, absF (some b) = some c /\ W64 c /\ Ieee.double.read c = .number false m i := by
 have e : Ieee.double.read (b % 9223372036854775808) = .number false m i := by
  obtain ⟨hs, hlt, h⟩ := read_number h
  unfold Format.read
  simp only [signWeight_d, binade_d, infRung_d, leastPlace_d]
  have e1 : b % 9223372036854775808 % 9223372036854775808 = b % 9223372036854775808 := by omega
  have e2 : (b % 9223372036854775808 / 9223372036854775808 % 2 == 1) = false := by
   rw [beq_eq_false_iff_ne]; omega
  rw [e1, e2]
  rcases h with ⟨h1, rfl, rfl⟩ | ⟨h1, rfl, rfl⟩
  ·rw [if_pos h1]
  ·rw [if_neg (by omega), if_pos hlt]
 have hn : isNaN (b % 9223372036854775808) = false := by unfold isNaN; rw [e]; rfl
 refine ⟨b % 9223372036854775808, ?_, by unfold W64 at *; omega, e⟩
 show canon _ = _
 unfold canon; rw [hn]; rfl
theorem read_two52 : Ieee.double.read 4841369599423283200 = .number false 4503599627370496 0 := by decide
theorem read_least : Ieee.double.read 4503599627370496 = .number false 4503599627370496 (-1074) := by decide
theorem read_tiny53 : Ieee.double.read 4368491638549381120 = .number false 4503599627370496 (-105) := by decide
theorem flt_least {c : Nat} {m : Nat} {i : Int} (h : Ieee.double.read c = .number false m i) : flt (some c) (some 4503599627370496) = decide (m < 4503599627370496 /\ i = -1074) := by
 have hg := place_ge h
 have hr := read_number h
 rw [flt_w, h, read_least]
 simp only [Datum.order]
 have hmin : min i (-1074) = -1074 := by omega
 have e0 : (-1074 - -1074 : Int).toNat = 0 := by decide
 rw [hmin, e0]
 have s1 : signed false m (i - -1074).toNat = ((m <<< (i - -1074).toNat : Nat) : Int) := rfl
 have s2 : signed false 4503599627370496 0 = ((4503599627370496 : Nat) : Int) := rfl
 rw [s1, s2, Nat.shiftLeft_eq]
 have hp : 0 < 2 ^ (i - -1074).toNat := Nat.two_pow_pos _
 have hle : m <= m * 2 ^ (i - -1074).toNat := Nat.le_mul_of_pos_right m hp
 by_cases hc : m < 4503599627370496 /\ i = -1074
 ·rw [decide_eq_true hc]
  obtain ⟨h1, rfl⟩ := hc
  rw [e0, Nat.pow_zero, Nat.mul_one]
  have : compare (m : Int) ((4503599627370496 : Nat) : Int) = .lt := Int.compare_eq_lt.2 (by omega)
  rw [this]; rfl
 ·rw [decide_eq_false hc]
  have hm : 4503599627370496 <= m := by
   rcases hr.2.2 with ⟨h1, rfl, rfl⟩ | ⟨h1, rfl, rfl⟩
   ·omega
   ·omega
  generalize m * 2 ^ (i - -1074).toNat = q at hle
  have : compare (q : Int) ((4503599627370496 : Nat) : Int) ≠ .lt := fun e => by
   have := Int.compare_eq_lt.1 e; omega
  cases e : compare (q : Int) ((4503599627370496 : Nat) : Int) with
  | lt => exact absurd e this
  | eq => rfl
  | gt => rfl
theorem law_normalize (N : Nat) {b : Nat} (hb : W64 b) {s : Bool} {m : Nat} {i : Int} (h : Ieee.double.read b = .number s m i) (h0 : m ≠ 0) :
  ∃ b' M P adj, (∀ κ : Fl -> Int -> Bool, sQ38 N (some b) κ = κ (some b') adj) /\ W64 b' /\ Ieee.double.read b' = .number s M P /\ 4503599627370496 <= M /\ M < 9007199254740992 /\ -1074 <= P /\ P <= 971 /\ -52 <= adj /\ (adj <= 0 /\ P + adj = i + m.log2 - 52) /\ ∀ k, Ieee.double.nearest s M (P + adj + k) = Ieee.double.nearest s m (i + k) := by
 obtain ⟨c, hc, hcw, hcr⟩ := absF_num hb h
 have hp := place_le h
 have hg := place_ge h
 have hr := read_number h
 by_cases hd : m < 4503599627370496 /\ i = -1074
 ·obtain ⟨h1, rfl⟩ := hd
  have hl : m.log2 < 52 := (Nat.log2_lt h0).2 (by simpa using h1)
  obtain ⟨hM1, hM2⟩ := lift52 h0 hp.2
  have hmul : fmul (some b) (some 4841369599423283200) = some (Ieee.double.nearest s (m * 4503599627370496) (-1074)) := by
   rw [fmul_w, h, read_two52]
   have e : (Datum.number s m (-1074)).product (.number false 4503599627370496 0) = some (.number (s ^^ false) (m * 4503599627370496) (-1074 + 0)) := rfl
   rw [e, Option.map_some, Bool.xor_false, Int.add_zero, write_number]
  have hn : Ieee.double.nearest s (m * 4503599627370496) (-1074) = Ieee.double.nearest s (m <<< (52 - m.log2)) (-1074 + m.log2) := by
   have := nearest_shift s (m <<< (52 - m.log2)) (-1074 + m.log2) m.log2
   rw [<- Nat.shiftLeft_add, show 52 - m.log2 + m.log2 = 52 by omega] at this
   have e1 : m * 4503599627370496 = m <<< 52 := by
    have : (2 : Nat) ^ 52 = 4503599627370496 := by decide
    rw [Nat.shiftLeft_eq, this]
   have e2 : (-1074 + (m.log2 : Int)) - (m.log2 : Int) = -1074 := by omega
   rw [e2] at this
   rw [e1, this]
  have hw : Ieee.double.nearest s (m <<< (52 - m.log2)) (-1074 + m.log2) = Ieee.double.word s ((-1074 + (m.log2 : Int) + 1075).toNat * 4503599627370496 + (m <<< (52 - m.log2) - 4503599627370496)) :=
   write_read (word_W64 s (by omega)) (read_normal s _ _ ⟨hM1, hM2⟩ (by omega))
  refine ⟨Ieee.double.word s ((-1074 + (m.log2 : Int) + 1075).toNat * 4503599627370496 + (m <<< (52 - m.log2) - 4503599627370496)), m <<< (52 - m.log2), -1074 + m.log2, -52, fun κ => ?_, word_W64 s (by omega), read_normal s _ _ ⟨hM1, hM2⟩ (by omega), hM1, hM2, by omega, by omega, by omega, ⟨by omega, by omega⟩, fun k => ?_⟩
  ·unfold sQ38 GQ38
   show cond (flt (absF (some b)) (some 4503599627370496)) _ _ = _
   rw [hc, flt_least hcr, decide_eq_true ⟨h1, rfl⟩, cond_true, hmul, hn, hw]
  ·have e : (-1074 + (m.log2 : Int) + -52 + k) = -1074 + k - ((52 - m.log2 : Nat) : Int) := by omega
   rw [e, nearest_lift]
 ·have hm : 4503599627370496 <= m := by
   rcases hr.2.2 with ⟨h1, rfl, rfl⟩ | ⟨h1, rfl, rfl⟩
   ·omega
   ·omega
  refine ⟨b, m, i, 0, fun κ => ?_, hb, h, hm, hp.2, hg, hp.1, by omega, ⟨by omega, by rw [log2_normal ⟨hm, hp.2⟩]; omega⟩, fun k => by rw [Int.add_zero]⟩
  unfold sQ38 GQ38
  show cond (flt (absF (some b)) (some 4503599627370496)) _ _ = _
  rw [hc, flt_least hcr, decide_eq_false hd, cond_false]
theorem feq_zero {b : Nat} {s : Bool} {m : Nat} {i : Int} (h : Ieee.double.read b = .number s m i) : feq (some b) (some 0) = decide (m = 0) := by
 rw [feq_w, h, read_zero]
 simp only [Datum.order, signed_zero]
 by_cases h0 : m = 0
 ·subst h0; rw [signed_zero]; rfl
 ·rw [decide_eq_false h0]
  have hp : m <<< (i - min i (-1074)).toNat ≠ 0 := by
   rw [Nat.shiftLeft_eq]
   exact Nat.mul_ne_zero h0 (Nat.ne_of_gt (Nat.two_pow_pos _))
  have hne : signed s m (i - min i (-1074)).toNat ≠ 0 := by
   unfold signed
   generalize m <<< (i - min i (-1074)).toNat = q at hp
   cases s <;> simp <;> omega
  cases e : compare (signed s m (i - min i (-1074)).toNat) 0 with
  | lt => rfl
  | gt => rfl
  | eq => exact absurd (Int.compare_eq_eq.1 e) hne
theorem law_IsNaN (N : Nat) (x : Fl) (k : Bool -> Bool) : sQ74 N x k = k (!feq x x) := rfl
theorem law_IsInf_fin (N : Nat) {x : Fl} (hx : finF x = true) (hw : FW x) (k : Bool -> Bool) : sQ63 N x 0 k = k false := by
 obtain ⟨b, s, m, i, rfl, h⟩ := finF_num hx
 obtain ⟨c, hc, hcw, hcr⟩ := absF_num (hw b rfl) h
 have hp := place_le hcr
 have hg := place_ge hcr
 unfold sQ63 GQ63
 show k (fgt (absF (some b)) (some 9218868437227405311)) = _
 rw [hc]
 congr 1
 have hr : Ieee.double.read 9218868437227405311 = .number false 9007199254740991 971 := by decide
 rw [fgt_w, hcr, hr]
 simp only [Datum.order]
 have hmin : min i 971 = i := by omega
 have e0 : (i - i).toNat = 0 := by omega
 rw [hmin, e0]
 have s1 : signed false m 0 = ((m : Nat) : Int) := rfl
 have s2 : signed false 9007199254740991 (971 - i).toNat = ((9007199254740991 <<< (971 - i).toNat : Nat) : Int) := rfl
 rw [s1, s2, Nat.shiftLeft_eq]
 have hpw : 0 < 2 ^ (971 - i).toNat := Nat.two_pow_pos _
 have hle : 9007199254740991 <= 9007199254740991 * 2 ^ (971 - i).toNat := Nat.le_mul_of_pos_right _ hpw
 generalize 9007199254740991 * 2 ^ (971 - i).toNat = q at hle
 have : compare (m : Int) (q : Int) ≠ .gt := fun e => by
  have := Int.compare_eq_gt.1 e; omega
 cases e : compare (m : Int) (q : Int) with
 | gt => exact absurd e this
 | eq => rfl
 | lt => rfl
theorem expo {b : Nat} (hb : W64 b) {s : Bool} {M : Nat} {P : Int} (h : Ieee.double.read b = .number s M P) (hM : 4503599627370496 <= M) : ((b / 4503599627370496 % 2048 : Nat) : Int) = P + 1075 := by
 obtain ⟨-, hlt, h⟩ := read_number h
 rcases h with ⟨h1, rfl, rfl⟩ | ⟨h1, rfl, rfl⟩
 ·omega
 ·omega
theorem and11_i (n : Nat) (h : n < 4096) : bitsN .and .i64 (n : Int) 2047 = ((n % 2048 : Nat) : Int) := by
 unfold bitsN bitsI
 simp only [Option.getD_some]
 have h2047 : (2047 : Int) = ((2 ^ 11 - 1 : Nat) : Int) := by simp
 rw [h2047]
 have e : ((BitVec.ofInt (IntKind.bits .i64) (n : Int)) &&& (BitVec.ofInt (IntKind.bits .i64) ((2 ^ 11 - 1 : Nat) : Int))).toNat = n % 2048 := by
  show ((BitVec.ofInt 64 (n : Int)) &&& (BitVec.ofInt 64 ((2 ^ 11 - 1 : Nat) : Int))).toNat = n % 2 ^ 11
  rw [BitVec.toNat_and, BitVec.ofInt_natCast, BitVec.ofInt_natCast, BitVec.toNat_ofNat, BitVec.toNat_ofNat, Nat.mod_eq_of_lt (a := 2 ^ 11 - 1) (by decide), Nat.and_two_pow_sub_one_eq_mod, Nat.mod_mod_of_dvd]
  exact Nat.pow_dvd_pow 2 (by decide)
 rw [e]
 have hw : ∀ z : Nat, z < 4096 -> IntKind.wrap .i64 (z : Int) = z := fun z hz => by
  unfold IntKind.wrap
  have h1 : IntKind.signed .i64 = true := rfl
  have h2 : IntKind.bits .i64 = 64 := rfl
  have h3 : (2 : Int) ^ 64 = 18446744073709551616 := by decide
  have h4 : (2 : Int) ^ (64 - 1) = 9223372036854775808 := by decide
  simp only [h1, h2, h3, h4, Bool.true_and, decide_eq_true_eq]
  split <;> omega
 rw [hw _ (by omega)]
theorem flt_zero {b : Nat} {s : Bool} {m : Nat} {i : Int} (h : Ieee.double.read b = .number s m i) (h0 : m ≠ 0) : flt (some b) (some 0) = s := by
 rw [flt_w, h, read_zero]
 simp only [Datum.order, signed_zero]
 have hp : m <<< (i - min i (-1074)).toNat ≠ 0 := by
  rw [Nat.shiftLeft_eq]
  exact Nat.mul_ne_zero h0 (Nat.ne_of_gt (Nat.two_pow_pos _))
 cases s with
 | true =>
  have : signed true m (i - min i (-1074)).toNat < 0 := by
   show -((m <<< (i - min i (-1074)).toNat : Nat) : Int) < 0
   generalize m <<< (i - min i (-1074)).toNat = q at hp
   omega
  rw [Int.compare_eq_lt.2 this]; rfl
 | false =>
  have : 0 < signed false m (i - min i (-1074)).toNat := by
   show 0 < ((m <<< (i - min i (-1074)).toNat : Nat) : Int)
   generalize m <<< (i - min i (-1074)).toNat = q at hp
   omega
  rw [Int.compare_eq_gt.2 this]; rfl
theorem num_sign {b : Nat} (hb : W64 b) {s : Bool} {m : Nat} {i : Int} (h : Ieee.double.read b = .number s m i) : b / 9223372036854775808 * 9223372036854775808 = Ieee.double.word s 0 := by
 obtain ⟨rfl, -, -⟩ := read_number h
 unfold Format.word; rw [signWeight_d]
 unfold W64 at hb
 by_cases h1 : b / 9223372036854775808 % 2 = 1
 ·rw [h1]; simp; omega
 ·rw [show (b / 9223372036854775808 % 2 == 1) = false by rw [beq_eq_false_iff_ne]; exact h1]; simp; omega
theorem copysign_zero (N : Nat) {b : Nat} (hb : W64 b) {s : Bool} {m : Nat} {i : Int} (h : Ieee.double.read b = .number s m i) (κ : Fl -> Bool) : sQ51 N (some 0) (some b) κ = κ (some (Ieee.double.word s 0)) := by
 unfold sQ51 GQ51
 have e0 : sQ13 N (some 0) = fun k => k ((0 : Nat) : Int) := rfl
 have e1 : sQ13 N (some b) = fun k => k (b : Int) := rfl
 rw [e0, e1]
 dsimp only
 have hand : bitsN .and .u64 (b : Int) 9223372036854775808 = ((b / 9223372036854775808 * 9223372036854775808 : Nat) : Int) := by
  unfold bitsN bitsI
  simp only [Option.getD_some]
  unfold W64 at hb
  have e : ((BitVec.ofInt (IntKind.bits .u64) (b : Int)) &&& (BitVec.ofInt (IntKind.bits .u64) (9223372036854775808 : Int))).toNat = b / 9223372036854775808 * 9223372036854775808 := by
   show ((BitVec.ofInt 64 (b : Int)) &&& (BitVec.ofInt 64 ((2 ^ 63 : Nat) : Int))).toNat = _
   have h64 : (2 : Nat) ^ 64 = 18446744073709551616 := by decide
   have h63 : (2 : Nat) ^ 63 = 9223372036854775808 := by decide
   rw [BitVec.toNat_and, BitVec.ofInt_natCast, BitVec.ofInt_natCast, BitVec.toNat_ofNat, BitVec.toNat_ofNat, Nat.mod_eq_of_lt (by omega), Nat.mod_eq_of_lt (a := 2 ^ 63) (by decide)]
   have hq : b / 9223372036854775808 = 0 \/ b / 9223372036854775808 = 1 := by omega
   have ht := Nat.testBit_eq_decide_div_mod_eq (x := b) (i := 63)
   rw [h63] at ht
   rcases hq with hq | hq
   ·rw [hq, Nat.zero_mul]
    rw [hq] at ht
    apply Nat.eq_of_testBit_eq
    intro j
    rw [Nat.testBit_and, Nat.testBit_two_pow, Nat.zero_testBit]
    by_cases hj : 63 = j
    ·subst hj; rw [ht]; rfl
    ·rw [decide_eq_false hj, Bool.and_false]
   ·rw [hq, Nat.one_mul, <- h63]
    rw [hq] at ht
    apply Nat.eq_of_testBit_eq
    intro j
    rw [Nat.testBit_and, Nat.testBit_two_pow]
    by_cases hj : 63 = j
    ·subst hj; rw [ht]; rfl
    ·rw [decide_eq_false hj, Bool.and_false]
  rw [e, wrap_u64 _ (by omega)]
 have h00 : bitsN .andNot .u64 ((0 : Nat) : Int) 9223372036854775808 = 0 := by rw [bitsN_andNot_top]; rfl
 rw [hand, h00, num_sign hb h, or0 _ (word_W64 s (by decide))]
 show κ (canon (Int.toNat ((Ieee.double.word s 0 : Nat) : Int))) = _
 rw [Int.toNat_natCast]
 congr 1
 cases s <;> decide
theorem law_Inf_neg (N : Nat) (κ : Fl -> Bool) : s_m_Inf N (-1) κ = κ (some 18442240474082181120) := by
 unfold s_m_Inf G_m_Inf
 rw [decide_eq_false (by decide), cond_false]
 show κ (canon 18442240474082181120) = _
 congr 1
theorem law_Inf_pos (N : Nat) (κ : Fl -> Bool) : s_m_Inf N 1 κ = κ (some 9218868437227405312) := by
 unfold s_m_Inf G_m_Inf
 rw [decide_eq_true (by decide), cond_true]
 show κ (canon 9218868437227405312) = _
 congr 1
theorem word_inf (s : Bool) : Ieee.double.word s 9218868437227405312 = cond s 18442240474082181120 9218868437227405312 := by cases s <;> decide
theorem or_swap (a b : Nat) (ha : a < 9223372036854775808) (hb : b < 9223372036854775808) : bitsN .or .u64 (bitsN .or .u64 (a : Int) 9223372036854775808) (b : Int) = bitsN .or .u64 (bitsN .or .u64 (a : Int) (b : Int)) 9223372036854775808 := by
 have hor : ∀ u v : Nat, u < 18446744073709551616 -> v < 18446744073709551616 -> bitsN .or .u64 (u : Int) (v : Int) = ((u ||| v : Nat) : Int) := fun u v hu hv => by
  unfold bitsN bitsI
  simp only [Option.getD_some]
  have h64 : (2 : Nat) ^ 64 = 18446744073709551616 := by decide
  have e : ((BitVec.ofInt (IntKind.bits .u64) (u : Int)) ||| (BitVec.ofInt (IntKind.bits .u64) (v : Int))).toNat = u ||| v := by
   show ((BitVec.ofInt 64 (u : Int)) ||| (BitVec.ofInt 64 (v : Int))).toNat = _
   rw [BitVec.toNat_or, BitVec.ofInt_natCast, BitVec.ofInt_natCast, BitVec.toNat_ofNat, BitVec.toNat_ofNat, Nat.mod_eq_of_lt (by omega), Nat.mod_eq_of_lt (by omega)]
  rw [e, wrap_u64 _ (by
   have := Nat.or_lt_two_pow (n := 64) (x := u) (y := v) (by omega) (by omega)
   omega)]
 have h64 : (2 : Nat) ^ 64 = 18446744073709551616 := by decide
 have o1 := Nat.or_lt_two_pow (n := 64) (x := a) (y := 9223372036854775808) (by omega) (by omega)
 have o2 := Nat.or_lt_two_pow (n := 64) (x := a) (y := b) (by omega) (by omega)
 have c : (9223372036854775808 : Int) = ((9223372036854775808 : Nat) : Int) := rfl
 rw [c, hor a _ (by omega) (by decide), hor _ b (by omega) (by omega), hor a b (by omega) (by omega), hor _ _ (by omega) (by decide), Nat.or_assoc, Nat.or_assoc, Nat.or_comm b]
theorem law_lay {b : Nat} (hb : W64 b) {s : Bool} {M : Nat} {P : Int} (h : Ieee.double.read b = .number s M P) (hM : 4503599627370496 <= M) {E : Int} (h1 : 0 < E) (h2 : E < 2047) :
  bitsN .or .u64 (bitsN .andNot .u64 (b : Int) 9218868437227405312) (IntKind.wrap .u64 ((IntKind.wrap .u64 E) * 2 ^ 52)) = ((Ieee.double.word s (E.toNat * 4503599627370496 + (M - 4503599627370496)) : Nat) : Int) := by
 have hs := num_sign hb h
 obtain ⟨hsg, hlt, hr⟩ := read_number h
 have hf : M - 4503599627370496 = b % 4503599627370496 := by
  rcases hr with ⟨h1, rfl, rfl⟩ | ⟨h1, rfl, rfl⟩
  ·omega
  ·omega
 obtain ⟨e, rfl⟩ : ∃ e : Nat, E = e := ⟨E.toNat, by omega⟩
 have e1 : IntKind.wrap .u64 (IntKind.wrap .u64 (e : Int) * 2 ^ 52) = ((2 ^ 52 * e : Nat) : Int) := by
  rw [wrap_u64 e (by omega), wrap64]
  have h3 : (2 : Int) ^ 52 = 4503599627370496 := by decide
  have h4 : (2 : Nat) ^ 52 = 4503599627370496 := by decide
  rw [h3, h4]; omega
 rw [e1, andNot_mid hb, hs, hf, Int.toNat_natCast]
 have p52 : (2 : Nat) ^ 52 = 4503599627370496 := by decide
 cases s with
 | false =>
  have w0 : Ieee.double.word false 0 = 0 := by decide
  rw [w0, Nat.zero_add, bitsN_or_disj64 _ e 52 (by rw [p52]; omega) (by rw [p52]; omega), p52]
  unfold Format.word
  simp only [Bool.false_eq_true, if_false]
  rw [Nat.mul_comm 4503599627370496 e]
 | true =>
  have w0 : Ieee.double.word true 0 = 9223372036854775808 := by decide
  rw [w0]
  have hsplit : bitsN .or .u64 ((9223372036854775808 + b % 4503599627370496 : Nat) : Int) ((2 ^ 52 * e : Nat) : Int) = ((9223372036854775808 + (2 ^ 52 * e + b % 4503599627370496) : Nat) : Int) := by
   rw [<- orTop (b % 4503599627370496) (by omega), <- orTop (2 ^ 52 * e + b % 4503599627370496) (by rw [p52]; omega), <- bitsN_or_disj64 (b % 4503599627370496) e 52 (by rw [p52]; omega) (by rw [p52]; omega)]
   exact or_swap _ _ (by omega) (by rw [p52]; omega)
  rw [hsplit]
  unfold Format.word
  rw [signWeight_d]
  simp only [if_true]
  rw [p52, Nat.mul_comm 4503599627370496 e]
theorem law_Ldexp (N : Nat) {x : Fl} (hx : finF x = true) (hw : FW x) {k : Int} (hk1 : -5000 <= k) (hk2 : k <= 5000) (κ : Fl -> Bool) : sQ18 N x k κ = κ (sclF x k) := by
 obtain ⟨b, s, m, i, rfl, h⟩ := finF_num hx
 have hb := hw b rfl
 rw [sclF_num h]
 unfold sQ18 GQ18 sQ83 GQ83
 rw [feq_zero h]
 by_cases h0 : m = 0
 ·subst h0
  rw [decide_eq_true rfl, cond_true, nearest_zero, mag0_word hb h]
 ·rw [decide_eq_false h0, cond_false, law_IsInf_fin N hx hw]
  dsimp only
  rw [show ((false : Bool) == false) = true from rfl, cond_true, law_IsNaN, feq_refl hx, Bool.not_true, cond_false]
  obtain ⟨b', M, P, adj, h1, h2, h3, h4, h5, h6, h7, h8, h9, h10⟩ := law_normalize N hb h h0
  have he := expo h2 h3 h4
  have hM0 : M ≠ 0 := by omega
  have hP : (P + adj + k) = P + adj + k := rfl
  rw [h1, <- h10 k]
  have e0 : sQ13 N (some b') = fun k => k (b' : Int) := rfl
  rw [e0]
  dsimp only
  have hb' : b' < 18446744073709551616 := h2
  rw [and_tr (fits_ok (by omega) (by omega)), fdiv52, and_tr (fits_ok (by omega) (by omega)), and11_i _ (by omega), he, and_tr (fits_ok (by omega) (by omega)), and_tr (fits_ok (by omega) (by omega))]
  have e1 : k + adj + (P + 1075 - 1023) = P + adj + k + 52 := by omega
  rw [e1]
  generalize hQ : P + adj + k = Q
  by_cases c1 : Q + 52 < -1075
  ·rw [decide_eq_true c1, cond_true, copysign_zero N h2 h3, nearest_tiny s ⟨h4, h5⟩ (by omega)]
  ·rw [decide_eq_false c1, cond_false]
   by_cases c2 : Q + 52 > 1023
   ·rw [decide_eq_true c2, cond_true, flt_zero h3 hM0, nearest_huge s ⟨h4, h5⟩ (by omega), word_inf]
    cases s
    ·rw [cond_false, law_Inf_pos]; rfl
    ·rw [cond_true, law_Inf_neg]; rfl
   ·rw [decide_eq_false c2, cond_false]
    have hjump : ∀ (E : Int) (c : Nat) , 0 < E + 1023 -> E + 1023 < 2047 -> fits .i64 (E + 1023) = true := fun E c a1 a2 => fits_ok (by omega) (by omega)
    by_cases c3 : Q + 52 < -1022
    ·rw [decide_eq_true c3, cond_true, and_tr (fits_ok (by omega) (by omega))]
     unfold JQ104
     rw [and_tr (fits_ok (by omega) (by omega)), law_lay h2 h3 h4 (by omega) (by omega)]
     show κ (fmul _ (canon (Int.toNat ((_ : Nat) : Int)))) = _
     rw [Int.toNat_natCast]
     have hE : (Q + 52 + 53 + 1023) = (Q + 53) + 1075 := by omega
     rw [hE]
     have hrd := read_normal s M (Q + 53) ⟨h4, h5⟩ (by omega)
     have hcn : canon (Ieee.double.word s ((Q + 53 + 1075).toNat * 4503599627370496 + (M - 4503599627370496))) = some (Ieee.double.word s ((Q + 53 + 1075).toNat * 4503599627370496 + (M - 4503599627370496))) := by
      have hn : isNaN (Ieee.double.word s ((Q + 53 + 1075).toNat * 4503599627370496 + (M - 4503599627370496))) = false := by unfold isNaN; rw [hrd]; rfl
      unfold canon; rw [hn]; rfl
     rw [hcn, fmul_w, read_tiny53, hrd]
     have e : (Datum.number false 4503599627370496 (-105)).product (.number s M (Q + 53)) = some (.number (false ^^ s) (4503599627370496 * M) (-105 + (Q + 53))) := rfl
     rw [e, Option.map_some, Bool.false_xor, write_number]
     have e5 : 4503599627370496 * M = M <<< 52 := by
      have : (2 : Nat) ^ 52 = 4503599627370496 := by decide
      rw [Nat.shiftLeft_eq, this, Nat.mul_comm]
     have e6 : (-105 + (Q + 53)) = Q - ((52 : Nat) : Int) := by omega
     rw [e5, e6, nearest_shift]
    ·rw [decide_eq_false c3, cond_false]
     unfold JQ104
     rw [and_tr (fits_ok (by omega) (by omega)), law_lay h2 h3 h4 (by omega) (by omega)]
     show κ (fmul _ (canon (Int.toNat ((_ : Nat) : Int)))) = _
     rw [Int.toNat_natCast]
     have hE : (Q + 52 + 1023) = Q + 1075 := by omega
     rw [hE]
     have hrd := read_normal s M Q ⟨h4, h5⟩ (by omega)
     have hW : W64 (Ieee.double.word s ((Q + 1075).toNat * 4503599627370496 + (M - 4503599627370496))) := word_W64 s (by omega)
     have hcn : canon (Ieee.double.word s ((Q + 1075).toNat * 4503599627370496 + (M - 4503599627370496))) = some (Ieee.double.word s ((Q + 1075).toNat * 4503599627370496 + (M - 4503599627370496))) := by
      have hn : isNaN (Ieee.double.word s ((Q + 1075).toNat * 4503599627370496 + (M - 4503599627370496))) = false := by unfold isNaN; rw [hrd]; rfl
      unfold canon; rw [hn]; rfl
     rw [hcn, write_read hW hrd, one_fmul (fun c hc => by cases hc; exact hW) (finF_of hrd)]
set_option linter.unusedVariables false
theorem write_W64 (d : Datum) : W64 (Ieee.double.write d) := by
 cases d with
 | number s m i => exact nearest_W64 s m i
 | infinity s =>
  have : Ieee.double.write (.infinity s) = Ieee.double.word s 9218868437227405312 := by rw [<- infRung_d]; rfl
  rw [this]; exact word_W64 s (by decide)
 | nan s f =>
  have : Ieee.double.write (.nan s f) = Ieee.double.word s (9218868437227405312 + f % 4503599627370496) := by rw [<- infRung_d, <- binade_d]; rfl
  rw [this]; exact word_W64 s (by omega)
theorem map_W64 {o : Option Datum} : FW (o.map Ieee.double.write) := by
 intro b hb
 cases o with
 | none => cases hb
 | some d => cases hb; exact write_W64 d
theorem FW_bin {f : Nat -> Nat -> Option Nat} (hf : ∀ a b c, f a b = some c -> W64 c) (x y : Fl) : FW (fbin f x y) := by
 intro c hc
 cases x with
 | none => cases hc
 | some a => cases y with
  | none => cases hc
  | some b => exact hf a b c hc
theorem FW_fadd (x y : Fl) : FW (fadd x y) := FW_bin (fun a b c h => map_W64 c h) x y
theorem FW_fsub (x y : Fl) : FW (fsub x y) := FW_bin (fun a b c h => map_W64 c h) x y
theorem FW_fmul (x y : Fl) : FW (fmul x y) := FW_bin (fun a b c h => map_W64 c h) x y
theorem FW_fdiv (x y : Fl) : FW (fdiv x y) := FW_bin (fun a b c h => map_W64 c h) x y
def vl (x : Fl) : Int := match x with
 | some b => match Ieee.double.read b with
  | .number s m i => signed s m (i + 1074).toNat
  | _ => 0
 | none => 0
theorem vl_num {b : Nat} {s : Bool} {m : Nat} {i : Int} (h : Ieee.double.read b = .number s m i) : vl (some b) = signed s m (i + 1074).toNat := by unfold vl; simp only [h]
theorem signed_scale (s : Bool) (m a c : Nat) : signed s m (a + c) = signed s m a * 2 ^ c := by
 unfold signed
 rw [Nat.shiftLeft_add]
 generalize m <<< a = q
 have : ((q <<< c : Nat) : Int) = (q : Int) * 2 ^ c := by
  rw [Nat.shiftLeft_eq]; push_cast; rfl
 cases s
 ·simp only [Bool.false_eq_true, if_false]; exact this
 ·simp only [if_true]; rw [this, Int.neg_mul]
theorem compare_scale (x y : Int) (c : Nat) : compare (x * 2 ^ c) (y * 2 ^ c) = compare x y := by
 have hp : (0 : Int) < 2 ^ c := Int.pow_pos (by decide)
 rcases Int.lt_trichotomy x y with h | h | h
 ·rw [Int.compare_eq_lt.2 h, Int.compare_eq_lt.2 (Int.mul_lt_mul_of_pos_right h hp)]
 ·subst h; rw [Int.compare_eq_eq.2 rfl, Int.compare_eq_eq.2 rfl]
 ·rw [Int.compare_eq_gt.2 h, Int.compare_eq_gt.2 (Int.mul_lt_mul_of_pos_right h hp)]
theorem ford_vl {x y : Fl} (hx : finF x = true) (hy : finF y = true) : ford x y = some (compare (vl x) (vl y)) := by
 obtain ⟨a, s, m, i, rfl, ha⟩ := finF_num hx
 obtain ⟨b, t, n, j, rfl, hb⟩ := finF_num hy
 have ga := place_ge ha
 have gb := place_ge hb
 show (Ieee.double.read a).order (Ieee.double.read b) = _
 rw [ha, hb, vl_num ha, vl_num hb]
 simp only [Datum.order]
 have e1 : (i + 1074).toNat = (i - min i j).toNat + (min i j + 1074).toNat := by omega
 have e2 : (j + 1074).toNat = (j - min i j).toNat + (min i j + 1074).toNat := by omega
 rw [e1, e2, signed_scale, signed_scale, compare_scale]
theorem feq_vl {x y : Fl} (hx : finF x = true) (hy : finF y = true) : feq x y = decide (vl x = vl y) := by
 unfold feq
 rw [ford_vl hx hy, Bool.eq_iff_iff, decide_eq_true_iff, beq_iff_eq, Option.some.injEq, Int.compare_eq_eq]
set_option linter.unusedVariables false
def mostF (xs : List Fl) : Nat -> Fl
 | 0 => some 0
 | n + 1 => fmm true (mostF xs n) (absF (xs.getD n none))
set_option linter.unusedVariables false
def GE1 (x : Fl) : Prop := ∃ b, x = some b /\ W64 b /\ (Ieee.double.read b = .infinity false \/ ∃ m i, Ieee.double.read b = .number false m i /\ 4503599627370496 <= m /\ m < 9007199254740992 /\ -52 <= i)
set_option linter.unusedVariables false
theorem small_of {N : Nat} (hN : 1000 <= N) {n : Nat} (h : n <= 48) : Small N n := ⟨by omega, by omega⟩
end Go.Proofs.YtjpaijnmiaoopaaGreatDoor
