/-
  PURE: RootBlind: who sees nothing learns nothing.
  Conditions: N large, the lists short, the numbers words.
-/
import Derived.Test.YtoagmokejfcpbaaP7
import Derived.Test.YtoagmokejfcpbaaFlC
namespace Go.Proofs.Ytoagmokejfcpbaa
open Go Go.Mach

theorem getD_replicate {n i : Nat} (h : i < n) (a d : Fl) : (List.replicate n a).getD i d = a := by
  rw [List.getD_eq_getElem?_getD, List.getElem?_replicate, if_pos h]; rfl
theorem set_replicate (n j : Nat) (a : Fl) : (List.replicate n a).set j a = List.replicate n a := by
  apply List.ext_getElem?
  intro i
  rw [List.getElem?_set]
  split
  · split
    · rename_i h1 h2; subst h1; rw [List.getElem?_replicate, if_pos (by simpa using h2)]
    · rename_i h1 h2; subst h1; rw [List.getElem?_replicate, if_neg (by simpa using h2)]
  · rfl
theorem getD_set_ne {l : List Fl} {i j : Nat} {a d : Fl} (h : i ≠ j) : (l.set i a).getD j d = l.getD j d := by
  rw [List.getD_eq_getElem?_getD, List.getElem?_set_ne h, List.getD_eq_getElem?_getD]
theorem idx_inj {n i j p q : Nat} (hj : j < n) (hq : q < n) (h : i * n + j = p * n + q) : i = p ∧ j = q := by
  have h1 : (i * n + j) / n = i := by rw [Nat.add_comm, Nat.add_mul_div_right _ _ (by omega), Nat.div_eq_of_lt hj]; omega
  have h2 : (p * n + q) / n = p := by rw [Nat.add_comm, Nat.add_mul_div_right _ _ (by omega), Nat.div_eq_of_lt hq]; omega
  have h3 : i = p := by rw [← h1, h, h2]
  subst h3
  exact ⟨rfl, by omega⟩
theorem allFin_at {xs : List Fl} (h : allFin xs = true) {i : Nat} (hi : i < xs.length) : finF (xs.getD i none) = true := allN_iff.1 h i hi

section
variable {n : Nat} {x xs : List Fl} {r z : Fl}

theorem colL_getD (xs : List Fl) (n j : Nat) : ∀ m i, i < m → (colL xs n j m).getD i none = elt xs n i j
  | 0, _, h => by omega
  | m + 1, i, h => by
    rw [colL, List.getD_eq_getElem?_getD]
    by_cases e : i < m
    · rw [List.getElem?_append_left (by rw [colL_length]; exact e), ← List.getD_eq_getElem?_getD, colL_getD xs n j m i e]
    · have : i = m := by omega
      subst this
      rw [List.getElem?_append_right (by rw [colL_length]; omega), colL_length, Nat.sub_self]; rfl
theorem dot_blind_right (a : List Fl) (ha : ∀ i, i < n → finF (a.getD i none) = true) : ∀ i, i ≤ n → dotV a (List.replicate n (some 0)) i = some 0 ∧ dotO a (List.replicate n (some 0)) i = false
  | 0, _ => ⟨rfl, rfl⟩
  | i + 1, h => by
    have ih := dot_blind_right a ha i (by omega)
    have hz := fmul_zero (ha i (by omega))
    rw [dotO, dotV, getD_replicate (by omega), ih.1, ih.2, zero_fadd hz, isZ_fin hz, isZ_fin isZ_zero]
    exact ⟨rfl, rfl⟩
theorem dot_blind_left (a : List Fl) (ha : ∀ i, i < n → finF (a.getD i none) = true) : ∀ i, i ≤ n → dotV (List.replicate n (some 0)) a i = some 0 ∧ dotO (List.replicate n (some 0)) a i = false
  | 0, _ => ⟨rfl, rfl⟩
  | i + 1, h => by
    have ih := dot_blind_left a ha i (by omega)
    have hz := zero_fmul (ha i (by omega))
    rw [dotO, dotV, getD_replicate (by omega), ih.1, ih.2, zero_fadd hz, isZ_fin hz, isZ_fin isZ_zero]
    exact ⟨rfl, rfl⟩
theorem vL_blind (hx : ∀ i j, i < n → j < n → finF (elt xs n i j) = true) : ∀ j, j ≤ n → vL xs (List.replicate n (some 0)) n j = List.replicate n (some 0)
  | 0, _ => rfl
  | j + 1, h => by
    rw [vL, vL_blind hx j (by omega), (dot_blind_right (colL xs n j n) (fun i hi => by rw [colL_getD xs n j n i hi]; exact hx i j hi (by omega)) n (Nat.le_refl _)).1, set_replicate]
theorem aL_blind (hw : FW r) (hr : finF r = true) (hp : fgt r (some 0) = true) : ∀ i, i ≤ n → ∀ k, n - i ≤ k → k ≤ n → (aL (List.replicate n (some 0)) r n i).getD k none = r
  | 0, _, k, h1, h2 => by
    have : k = n := by omega
    subst this
    rw [aL, getD_set_self (by simp)]
  | i + 1, h, k, h1, h2 => by
    have hz : isZ (fmul (some 0) (some 0)) := fmul_zero (by decide)
    have hs : aStep (List.replicate n (some 0)) (aL (List.replicate n (some 0)) r n i) (n - 1 - i) = r := by
      unfold aStep
      rw [aL_blind hw hr hp i (by omega) _ (by omega) (by omega), getD_replicate (by omega), fadd_zero_pos hw hr hp hz]
    rw [aL, hs]
    by_cases e : k = n - 1 - i
    · subst e
      rw [getD_set_self (by rw [aL_length]; omega)]
    · rw [getD_set_ne (Ne.symm e)]
      exact aL_blind hw hr hp i (by omega) k (by omega) h2

/-- what has been copied of the triangle -/
def Copied (xs : List Fl) (n : Nat) (L : List Fl) (done : Nat → Nat → Prop) : Prop := ∀ p q, p < n → q < n → (done p q → L.getD (p * n + q) none = elt xs n p q) ∧ (¬ done p q → L.getD (p * n + q) none = some 0)
theorem inL_blind (hx : ∀ i j, i < n → j < n → finF (elt xs n i j) = true ∧ FW (elt xs n i j)) {j : Nat} (hj : j < n) {L : List Fl} (hL : L.length = n * n) {done : Nat → Nat → Prop} (hd : Copied xs n L done) (hnew : ∀ p, p < n → ¬ done p j) :
    ∀ d, j + d ≤ n → (inL xs (List.replicate n (some 0)) n j (some 4607182418800017408) (some 0) (List.replicate n (some 0)) L d).2.1 = List.replicate n (some 0) ∧
      Copied xs n (inL xs (List.replicate n (some 0)) n j (some 4607182418800017408) (some 0) (List.replicate n (some 0)) L d).2.2 (fun p q => done p q ∨ (q = j ∧ j ≤ p ∧ p < j + d))
  | 0, _ => by
    refine ⟨rfl, fun p q hp hq => ⟨fun h => (hd p q hp hq).1 ?_, fun h => (hd p q hp hq).2 fun h' => h (.inl h')⟩⟩
    rcases h with h | ⟨-, h1, h2⟩
    · exact h
    · omega
  | d + 1, h => by
    obtain ⟨ih1, ih2⟩ := inL_blind hx hj hL hd hnew d (by omega)
    have hlen := (inL_length xs (List.replicate n (some 0)) n j (some 4607182418800017408) (some 0) (List.replicate n (some 0)) L d).2
    simp only [inL, inStep]
    generalize inL xs (List.replicate n (some 0)) n j (some 4607182418800017408) (some 0) (List.replicate n (some 0)) L d = u at *
    obtain ⟨u1, w, L'⟩ := u
    simp only at ih1 ih2 hlen ⊢
    subst ih1
    have hi : j + d < n := by omega
    have hz : isZ (fmul (some 0) (some 0)) := fmul_zero (by decide)
    have hz0 : fmul (some 0) (some 0) = some 0 := by decide
    obtain ⟨f1, f2⟩ := hx (j + d) j hi hj
    rw [getD_replicate hi, getD_replicate hj, zero_fadd (zero_fmul f1), one_fmul f2 f1, hz0, fsub_zero f2 f1, set_replicate]
    refine ⟨rfl, fun p q hp hq => ?_⟩
    by_cases e : p = j + d ∧ q = j
    · obtain ⟨rfl, rfl⟩ := e
      refine ⟨fun _ => ?_, fun h => absurd (.inr ⟨rfl, by omega, by omega⟩) h⟩
      rw [getD_set_self (by rw [hlen, hL]; exact idx_lt hi hj)]
    · have hne : (j + d) * n + j ≠ p * n + q := fun h' => e (by have := idx_inj hj hq h'; exact ⟨this.1.symm, this.2.symm⟩)
      rw [getD_set_ne hne]
      refine ⟨fun h' => (ih2 p q hp hq).1 ?_, fun h' => (ih2 p q hp hq).2 fun h'' => h' ?_⟩
      · rcases h' with h' | ⟨h1, h2, h3⟩
        · exact .inl h'
        · exact .inr ⟨h1, h2, by omega⟩
      · rcases h'' with h'' | ⟨h1, h2, h3⟩
        · exact .inl h''
        · exact .inr ⟨h1, h2, by omega⟩
theorem outL_fin_mono (xs v a : List Fl) (n : Nat) : ∀ i, (outL xs v a n (i + 1)).1 = false → (outL xs v a n i).1 = false ∧ finF (colC a (n - 1 - i)) = true ∧ finF (colPQ a (n - 1 - i)) = true ∧ finF (colT v a (n - 1 - i)) = true := by
  intro i h
  rw [outL] at h
  simp only [outStep, Bool.or_eq_false_iff] at h
  obtain ⟨⟨⟨⟨h1, h2⟩, h3⟩, h4⟩, -⟩ := h
  exact ⟨h1, by simpa using h2, by simpa using h3, by simpa using h4⟩
theorem outL_blind (hx : ∀ i j, i < n → j < n → finF (elt xs n i j) = true ∧ FW (elt xs n i j)) {a : List Fl} (ha : ∀ k, k ≤ n → a.getD k none = r) :
    ∀ i, i ≤ n → (outL xs (List.replicate n (some 0)) a n i).1 = false → (outL xs (List.replicate n (some 0)) a n i).2.1 = List.replicate n (some 0) ∧ Copied xs n (outL xs (List.replicate n (some 0)) a n i).2.2 (fun p q => n - i ≤ q ∧ q ≤ p)
  | 0, _, _ => by
    refine ⟨rfl, fun p q hp hq => ⟨fun h => by omega, fun _ => ?_⟩⟩
    exact getD_replicate (idx_lt hp hq) _ _
  | i + 1, h, ho => by
    obtain ⟨o1, o2, o3, o4⟩ := outL_fin_mono xs _ a n i ho
    obtain ⟨ih1, ih2⟩ := outL_blind hx ha i (by omega) o1
    have hlen := (outL_length xs (List.replicate n (some 0)) a n i).2
    rw [outL]
    have hj : n - 1 - i < n := by omega
    have hb : n - i = (n - 1 - i) + 1 := by omega
    have hb' : n - (i + 1) = n - 1 - i := by omega
    rw [hb'] at *
    rw [hb] at ih2
    generalize n - 1 - i = j at *
    have c1 : colC a j = fdiv (fsqrt r) (fsqrt r) := by unfold colC; rw [ha _ (by omega), ha _ (by omega)]
    have c2 : colPQ a j = fmul (fsqrt r) (fsqrt r) := by unfold colPQ; rw [ha _ (by omega), ha _ (by omega)]
    have c3 : colT (List.replicate n (some 0)) a j = fdiv (some 0) (fmul (fsqrt r) (fsqrt r)) := by unfold colT; rw [c2, getD_replicate hj]
    rw [c1] at o2
    rw [c2] at o3
    rw [c3] at o4
    obtain ⟨e1, e2⟩ := fdiv_self o2
    have e3 := zero_fdiv_sq e2 o3 o4
    simp only [outStep]
    rw [c1, c3, e1, e3, ih1]
    obtain ⟨g1, g2⟩ := inL_blind hx hj hlen ih2 (fun p hp h' => by omega) (n - j) (by omega)
    refine ⟨g1, fun p q hp hq => ⟨fun h' => (g2 p q hp hq).1 ?_, fun h' => (g2 p q hp hq).2 fun h'' => h' ?_⟩⟩
    · by_cases e : q = j
      · exact .inr ⟨e, by omega, by omega⟩
      · exact .inl ⟨by omega, h'.2⟩
    · rcases h'' with h'' | ⟨h1, h2, h3⟩
      · exact ⟨by omega, h''.2⟩
      · exact ⟨by omega, by omega⟩
theorem xL_getD (x w a : List Fl) (y : Fl) : ∀ m i, i < m → (xL x w a y m).getD i none = fadd (x.getD i none) (fmul (fdiv (w.getD i none) (a.getD 0 none)) y)
  | 0, _, h => by omega
  | m + 1, i, h => by
    rw [xL, List.getD_eq_getElem?_getD]
    by_cases e : i < m
    · rw [List.getElem?_append_left (by rw [xL_length]; exact e), ← List.getD_eq_getElem?_getD, xL_getD x w a y m i e]
    · have : i = m := by omega
      subst this
      rw [List.getElem?_append_right (by rw [xL_length]; omega), xL_length, Nat.sub_self]; rfl

/-- WHO SEES NOTHING LEARNS NOTHING -/
theorem blind (hx : x.length = n) (hl : xs.length = n * n) (hxf : allFin x = true) (hsf : allFin xs = true) (hxw : ∀ v ∈ x, FW v) (hsw : ∀ v ∈ xs, FW v) (hlow : lowP xs n = true) (hrw : FW r) (hr : finF r = true) (hp : fgt r (some 0) = true) (hzw : FW z) (hz : finF z = true)
    (ho : uO x xs (List.replicate n (some 0)) r z n = false) :
    (fA xs (List.replicate n (some 0)) r n).getD 0 none = r ∧ (∀ k, k < n * n → (uC xs (List.replicate n (some 0)) r n).2.2.getD k none = xs.getD k none) ∧
    ∀ i, i < n → feq ((xL x (uC xs (List.replicate n (some 0)) r n).2.1 (fA xs (List.replicate n (some 0)) r n) (uY x (List.replicate n (some 0)) z n) n).getD i none) (x.getD i none) = true := by
  have memD : ∀ {l : List Fl} {i : Nat}, i < l.length → l.getD i none ∈ l := by
    intro l i hi
    rw [List.getD_eq_getElem?_getD, List.getElem?_eq_getElem hi]
    exact List.getElem_mem hi
  have he : ∀ i j, i < n → j < n → finF (elt xs n i j) = true ∧ FW (elt xs n i j) := fun i j hi hj => by
    have := idx_lt hi hj
    exact ⟨allFin_at hsf (by omega), hsw _ (memD (by omega))⟩
  have hv := vL_blind (xs := xs) (fun i j hi hj => (he i j hi hj).1) n (Nat.le_refl _)
  have hA : ∀ k, k ≤ n → (fA xs (List.replicate n (some 0)) r n).getD k none = r := by
    intro k hk
    unfold fA
    rw [hv]
    exact aL_blind hrw hr hp n (Nat.le_refl _) k (by omega) hk
  have hy : uY x (List.replicate n (some 0)) z n = z := by
    unfold uY
    rw [(dot_blind_left x (fun i hi => allFin_at hxf (by omega)) n (Nat.le_refl _)).1, fsub_zero hzw hz]
  have hC : (uC xs (List.replicate n (some 0)) r n).1 = false := by
    unfold uO at ho
    simp only [Bool.or_eq_false_iff] at ho
    exact ho.1.1.1.2
  unfold uC at hC ⊢
  rw [hv] at hC ⊢
  obtain ⟨g1, g2⟩ := outL_blind he hA n (Nat.le_refl _) hC
  refine ⟨hA 0 (by omega), fun k hk => ?_, fun i hi => ?_⟩
  · have hn : 0 < n := by
      rcases Nat.eq_zero_or_pos n with h | h
      · subst h; omega
      · exact h
    have e : k = (k / n) * n + k % n := by rw [Nat.mul_comm]; exact (Nat.div_add_mod k n).symm
    have hp' : k / n < n := (Nat.div_lt_iff_lt_mul hn).2 hk
    have hq' : k % n < n := Nat.mod_lt _ hn
    have hcp := g2 (k / n) (k % n) hp' hq'
    rw [← e] at hcp
    have hee : elt xs n (k / n) (k % n) = xs.getD k none := by unfold elt; rw [← e]
    rw [hee] at hcp
    by_cases h : k % n ≤ k / n
    · exact hcp.1 ⟨by omega, h⟩
    · rw [hcp.2 (fun h' => h h'.2)]
      have h1 := allN_iff.1 hlow (k / n) hp'
      have h2 := allN_iff.1 h1 (k % n - (k / n + 1)) (by omega)
      have e3 : k / n + 1 + (k % n - (k / n + 1)) = k % n := by omega
      simp only [e3, upP, decide_eq_true_eq, hee] at h2
      exact (cn_zero h2).symm
  · rw [xL_getD _ _ _ _ n i hi, g1, getD_replicate hi, hA 0 (by omega), zero_fdiv_pos hr hp, hy]
    exact fadd_isZ_feq (hxw _ (memD (by omega))) (allFin_at hxf (by omega)) (zero_fmul hz)
end

theorem allFin_zeros (n : Nat) : allFin (List.replicate n (some 0)) = true := by
  refine allN_iff.2 fun i hi => ?_
  rw [getD_replicate (by simpa using hi)]; decide
theorem of64_FW {l : List Int} (h : ∀ n ∈ l, 0 ≤ n ∧ n ≤ 18446744073709551615) : ∀ v ∈ of64 l, FW v := by
  intro v hv
  unfold of64 at hv
  obtain ⟨n, hn, rfl⟩ := List.mem_map.1 hv
  have := h n hn
  exact canon_FW (by unfold W64; omega)
theorem law_IsInf (N : Nat) (x : Fl) (k : Bool → Bool) : s_math_IsInf N x 0 k = k (fgt (absF x) (some 9218868437227405311)) := rfl

theorem law_RootBlind {N : Nat} (x : List Int) (r c : Int) (m : List Int) (rr z : Int) (hN : 200 < N) (hx : Small N x.length) (hm : Small N m.length)
    (wx : ∀ n ∈ x, 0 ≤ n ∧ n ≤ 18446744073709551615) (wm : ∀ n ∈ m, 0 ≤ n ∧ n ≤ 18446744073709551615) (wr : 0 ≤ rr ∧ rr ≤ 18446744073709551615) (wz : 0 ≤ z ∧ z ≤ 18446744073709551615) (k : Bool → Bool) :
    s_binnaclelaw16_RootBlind N x r c m rr z k = k true := by
  unfold s_binnaclelaw16_RootBlind G_binnaclelaw16_RootBlind
  have hx' : Small N (of64 x).length := by rw [of64_length]; exact hx
  have hm' : Small N (of64 m).length := by rw [of64_length]; exact hm
  simp only [law_of x r c m hx hm, law_f, law_awake (by omega : 24 < N), law_IsInf, law_ref_Finite, law_root_Check (of64 x) r c (of64 m) (by omega : 12 < N) hx' hm', Bool.not_true, cond_false]
  have wX := of64_FW wx
  have wM := of64_FW wm
  have wR : FW (canon rr.toNat) := canon_FW (by unfold W64; omega)
  have wZ : FW (canon z.toNat) := canon_FW (by unfold W64; omega)
  generalize of64 x = X at *
  generalize of64 m = M at *
  generalize canon rr.toNat = R at *
  generalize canon z.toNat = Z at *
  by_cases h1 : rchk X r c M = 0
  · obtain ⟨n, e1, rfl, rfl, hn, hl, f1, f2, hlow, habv⟩ := rchk_zero h1
    have hb1 : ((rchk X n n M != 0) == false) = true := by rw [h1]; rfl
    rw [hb1, cond_true]
    cases hp : fgt R (some 0) with
    | false => rfl
    | true =>
      cases hi : fgt (absF R) (some 9218868437227405311) with
      | true => rfl
      | false =>
        cases hz : finF Z with
        | false => rfl
        | true =>
          have hr : finF R = true := by
            cases h : finF R with
            | true => rfl
            | false => rw [inf_abs h hp] at hi; cases hi
          simp only [Bool.not_true, beq_self_eq_true, cond_true, cond_false, e1, Int.toNat_natCast]
          rw [and_true_of (mkOk_ok (by omega) (by omega) (by omega) (by omega))]
          rw [law_Update X n n M (List.replicate n (some 0)) R Z (by omega : 14 < N) hx' hm' ⟨by simp; omega, by simp; omega⟩]
          unfold updK
          have h1' : ¬ (rchk X n n M ≠ 0) := by simpa using h1
          have hw : wchk n (List.replicate n (some 0)) R = 0 := by
            unfold wchk
            rw [if_pos (by simp), if_pos ⟨allFin_zeros n, hr⟩, if_pos hp]
          have hw' : ¬ (wchk n (List.replicate n (some 0)) R ≠ 0) := by simpa using hw
          simp only [if_neg h1', e1, if_neg hw', if_pos hz]
          cases ho : uO X M (List.replicate n (some 0)) R Z n with
          | true => rfl
          | false =>
            rw [cond_false]
            obtain ⟨b1, b2, b3⟩ := blind e1 hl f1 f2 wX wM hlow wR hr hp wZ hz ho
            have e6 : (uC M (List.replicate n (some 0)) R n).2.1.length = n ∧ (uC M (List.replicate n (some 0)) R n).2.2.length = n * n := outL_length _ _ _ _ _
            have e7 := xL_length X (uC M (List.replicate n (some 0)) R n).2.1 (fA M (List.replicate n (some 0)) R n) (uY X (List.replicate n (some 0)) Z n) n
            have hab : abvP (uC M (List.replicate n (some 0)) R n).2.2 n = true := by
              rw [← habv]
              refine allN_congr fun i hi => ?_
              unfold diaP elt
              rw [b2 _ (idx_lt hi hi)]
            rw [hab, cond_true, b1]
            generalize xL X (uC M (List.replicate n (some 0)) R n).2.1 (fA M (List.replicate n (some 0)) R n) (uY X (List.replicate n (some 0)) Z n) n = X' at *
            generalize (uC M (List.replicate n (some 0)) R n).2.2 = L' at *
            have hb2 : ((0 : Int) != 0) = false := by decide
            rw [hb2, cond_false]
            have a2 := nn_le hn
            refine iterG_eq0 (fun i => (i : Int)) n rfl (by omega) (fun i hi K => ?_) (fun K => ?_)
            · simp only [st_binnaclelaw16_RootBlind_0_2, Int.toNat_natCast, e1, e7]
              have hb3 : ((n : Int) != n) = false := by simp
              rw [dec_true (by omega), cond_true, hb3, b3 i hi, and_true_of (inR_of (by omega) (by omega)), and_true_of (dec_true (by omega)), and_true_of (inR_of (by omega) (by omega)), and_true_of (dec_true (by omega)), and_true_of (fits_ok (by omega) (by omega))]
              rfl
            · simp only [st_binnaclelaw16_RootBlind_0_2, e1]
              rw [dec_false (by omega), cond_false]
              refine iterG_eq0 (fun i => (i : Int)) (n * n) rfl (by omega) (fun i hi K => ?_) (fun K => ?_)
              · simp only [st_binnaclelaw16_RootBlind_2_2, Int.toNat_natCast, hl, e6.2]
                have hb3 : (((n * n : Nat) : Int) != (n * n : Nat)) = false := by simp
                rw [dec_true (by omega), cond_true, hb3, b2 i hi, feq_refl (allFin_at f2 (by omega)), and_true_of (inR_of (by omega) (by omega)), and_true_of (dec_true (by omega)), and_true_of (inR_of (by omega) (by omega)), and_true_of (dec_true (by omega)), and_true_of (fits_ok (by omega) (by omega))]
                rfl
              · simp only [st_binnaclelaw16_RootBlind_2_2, hl]
                rw [dec_false (by omega), cond_false, law_same _ hr]
  · have hb1 : ((rchk X r c M != 0) == false) = false := by
      have : (rchk X r c M != 0) = true := by simpa using h1
      rw [this]; rfl
    rw [hb1, cond_false]

end Go.Proofs.Ytoagmokejfcpbaa
