/-
  PURE: RootUpdates: what is foreseen, and the step, as the document says.
  Conditions: N large, the lists short.
-/
import Derived.Test.YtoagmokejfcpbaaP6
namespace Go.Proofs.Ytoagmokejfcpbaa
open Go Go.Mach

theorem law_awake {N : Nat} (hN : 24 < N) (k : Bool → Bool) : s_binnaclelaw16_awake N k = k true := by
  obtain ⟨M, rfl⟩ : ∃ M, N = M + 20 := ⟨N - 20, by omega⟩
  kernel_rfl
theorem finF_some {x : Fl} (h : finF x = true) : ∃ b, x = some b ∧ isNaN b = false := by
  cases x with
  | none => cases h
  | some b =>
    refine ⟨b, rfl, ?_⟩
    cases hb : isNaN b with
    | false => rfl
    | true =>
      obtain ⟨s, f, e⟩ := read_nan hb
      simp [finF, e, isNum] at h
theorem law_same {N : Nat} (x : Fl) (hx : finF x = true) (k : Bool → Bool) : s_binnaclelaw16_same N x x k = k true := by
  obtain ⟨b, rfl, hb⟩ := finF_some hx
  unfold s_binnaclelaw16_same G_binnaclelaw16_same
  simp only [s_math_Float64bits_2, law_Bits, bitsF, cnb, hb]
  simp
theorem dotV_fin (xs ys : List Fl) : ∀ n, dotO xs ys n = false → finF (dotV xs ys n) = true
  | 0, _ => (by decide : finF (some 0) = true)
  | n + 1, h => by
    rw [dotO, Bool.or_eq_false_iff] at h
    simpa using h.2
theorem getD_set_self {l : List Fl} {i : Nat} {a d : Fl} (h : i < l.length) : (l.set i a).getD i d = a := by
  rw [List.getD_eq_getElem?_getD, List.getElem?_set_self h]; rfl
theorem aL_fin (v : List Fl) (r : Fl) (n : Nat) (hr : finF r = true) : ∀ i, i ≤ n → aO v r n i = false → finF ((aL v r n i).getD (n - i) none) = true
  | 0, _, _ => by
    show finF (((List.replicate (n + 1) (some 0)).set n r).getD n none) = true
    rw [getD_set_self (by simp)]; exact hr
  | i + 1, hi, h => by
    rw [aO, Bool.or_eq_false_iff] at h
    show finF (((aL v r n i).set (n - 1 - i) (aStep v (aL v r n i) (n - 1 - i))).getD (n - (i + 1)) none) = true
    have e : n - (i + 1) = n - 1 - i := by omega
    rw [e, getD_set_self (by rw [aL_length]; omega)]
    simpa using h.2
theorem wchk_zero {n : Int} {h : List Fl} {r : Fl} (hw : wchk n h r = 0) : (h.length : Int) = n ∧ allFin h = true ∧ finF r = true ∧ fgt r (some 0) = true := by
  unfold wchk at hw
  split at hw
  · split at hw
    · split at hw
      · simp_all
      · cases hw
    · cases hw
  · cases hw
theorem fO_fin {x xs h : List Fl} {r : Fl} {n : Nat} (hr : finF r = true) (h0 : fO x xs h r n = false) : finF (dotV h x n) = true ∧ finF ((fA xs h r n).getD 0 none) = true := by
  unfold fO at h0
  rw [Bool.or_eq_false_iff, Bool.or_eq_false_iff] at h0
  refine ⟨dotV_fin _ _ _ h0.1.2, ?_⟩
  have := aL_fin (vL xs h n n) r n hr n (Nat.le_refl _) h0.2
  rwa [Nat.sub_self] at this

theorem law_told_self {N : Nat} (a : List Fl) (r c : Int) (m : List Fl) (e : Int) (ha : Small N a.length) (hm : Small N m.length) (k : Bool → Bool) : s_binnaclelaw16_told N a r c m e a r c m e k = k true := by
  unfold s_binnaclelaw16_told G_binnaclelaw16_told s_binnacleref16_Same G_binnacleref16_Same s_binnacleref15_SameMat G_binnacleref15_SameMat s_binnacleref15_list G_binnacleref15_list
  simp only [law_SameList_self a ha, law_SameList_self m hm, beq_self_eq_true, cond_true]
theorem law_SameStep_self {N : Nat} (a b c : Fl) (g : List Fl) (hN : 14 < N) (hg : Small N g.length) (k : Bool → Bool) : s_binnacleref15_SameStep N a b c g a b c g k = k true := by
  unfold s_binnacleref15_SameStep G_binnacleref15_SameStep s_binnacleref15_list G_binnacleref15_list
  have h3 : Small N [a, b, c].length := ⟨by simp; omega, by simp⟩
  simp only [law_SameList_self g hg, law_SameList_self _ h3, beq_self_eq_true, cond_true]

theorem law_RootUpdates {N : Nat} (x : List Int) (r c : Int) (m h : List Int) (rr z : Int) (hN : 24 < N) (hx : Small N x.length) (hm : Small N m.length) (hh : Small N h.length) (k : Bool → Bool) :
    s_binnaclelaw16_RootUpdates N x r c m h rr z k = k true := by
  unfold s_binnaclelaw16_RootUpdates G_binnaclelaw16_RootUpdates
  have hx' : Small N (of64 x).length := by rw [of64_length]; exact hx
  have hm' : Small N (of64 m).length := by rw [of64_length]; exact hm
  have hh' : Small N (of64 h).length := by rw [of64_length]; exact hh
  simp only [law_of x r c m hx hm, law_l h hh, law_f, law_awake hN, law_Foresee (of64 x) r c (of64 m) (of64 h) _ (by omega : 14 < N) hx' hm' hh', law_ref_Foresee (of64 x) r c (of64 m) (of64 h) _ (by omega : 14 < N) hx' hm' hh',
    law_Update (of64 x) r c (of64 m) (of64 h) _ _ (by omega : 14 < N) hx' hm' hh', law_ref_Update (of64 x) r c (of64 m) (of64 h) _ _ (by omega : 14 < N) hx' hm' hh', Bool.not_true, cond_false]
  generalize of64 x = X at *
  generalize of64 m = M at *
  generalize of64 h = H at *
  generalize canon rr.toNat = R
  generalize canon z.toNat = Z
  have hz : finF (some 0) = true := by decide
  have h0 : Small N ([] : List Fl).length := ⟨by simp; omega, by simp⟩
  have hend : updK X r c M H R Z (fun nr_2 nr_3 xr_8 xr_9 xr_10 nr_4 => updK X r c M H R Z
      (fun nr_5 nr_6 xr_13 xr_14 xr_15 nr_7 => s_binnaclelaw16_told N [] nr_2 nr_3 [] nr_4 [] nr_5 nr_6 [] nr_7 fun cr_3 => cond (cr_3 == true) (s_binnacleref15_SameStep N xr_8 xr_9 xr_10 [] xr_13 xr_14 xr_15 [] fun cr_4 => k cr_4) (k false))
      (fun nr_11 nr_12 xr_19 xr_20 xr_21 nr_13 xsr_13 xsr_14 xsr_15 => s_binnaclelaw16_told N [] nr_2 nr_3 [] nr_4 xsr_13 nr_11 nr_12 xsr_14 nr_13 fun cr_7 => cond (cr_7 == true) (s_binnacleref15_SameStep N xr_8 xr_9 xr_10 [] xr_19 xr_20 xr_21 xsr_15 fun cr_8 => k cr_8) (k false)))
      (fun nr_26 nr_27 xr_36 xr_37 xr_38 nr_28 xsr_24 xsr_25 xsr_26 => updK X r c M H R Z
      (fun nr_5 nr_6 xr_13 xr_14 xr_15 nr_7 => s_binnaclelaw16_told N xsr_24 nr_26 nr_27 xsr_25 nr_28 [] nr_5 nr_6 [] nr_7 fun cr_3 => cond (cr_3 == true) (s_binnacleref15_SameStep N xr_36 xr_37 xr_38 xsr_26 xr_13 xr_14 xr_15 [] fun cr_4 => k cr_4) (k false))
      (fun nr_11 nr_12 xr_19 xr_20 xr_21 nr_13 xsr_13 xsr_14 xsr_15 => s_binnaclelaw16_told N xsr_24 nr_26 nr_27 xsr_25 nr_28 xsr_13 nr_11 nr_12 xsr_14 nr_13 fun cr_7 => cond (cr_7 == true) (s_binnacleref15_SameStep N xr_36 xr_37 xr_38 xsr_26 xr_19 xr_20 xr_21 xsr_15 fun cr_8 => k cr_8) (k false))) = k true := by
    have hN' : 14 < N := by omega
    unfold updK
    by_cases h1 : rchk X r c M = 0
    · obtain ⟨n, e1, rfl, rfl, hn, hl, -⟩ := rchk_zero h1
      have h1' : ¬ (rchk X n n M ≠ 0) := by simpa using h1
      simp only [if_neg h1', e1]
      by_cases h2 : wchk n H R = 0
      · have h2' : ¬ (wchk n H R ≠ 0) := by simpa using h2
        simp only [if_neg h2']
        by_cases h3 : finF Z = true
        · simp only [if_pos h3]
          cases uO X M H R Z n with
          | true => simp only [cond_true, law_told_self _ _ _ _ _ h0 h0, beq_self_eq_true, law_SameStep_self _ _ _ _ hN' h0]
          | false =>
            simp only [cond_false]
            cases abvP (uC M H R n).2.2 n with
            | false => simp only [cond_false, law_told_self _ _ _ _ _ h0 h0, beq_self_eq_true, cond_true, law_SameStep_self _ _ _ _ hN' h0]
            | true =>
              have e6 : (uC M H R n).2.1.length = n ∧ (uC M H R n).2.2.length = n * n := outL_length _ _ _ _ _
              have a2 := nn_le hn
              simp only [cond_true]
              rw [law_told_self _ _ _ _ _ ⟨by rw [xL_length]; omega, by rw [xL_length]; omega⟩ ⟨by rw [e6.2, ← hl]; exact hm'.1, by omega⟩, law_SameStep_self _ _ _ _ hN' ⟨by rw [gL_length]; omega, by rw [gL_length]; omega⟩]
              rfl
        · simp only [if_neg h3, law_told_self _ _ _ _ _ h0 h0, beq_self_eq_true, cond_true, law_SameStep_self _ _ _ _ hN' h0]
      · have h2' : wchk n H R ≠ 0 := h2
        simp only [if_pos h2', law_told_self _ _ _ _ _ h0 h0, beq_self_eq_true, cond_true, law_SameStep_self _ _ _ _ hN' h0]
    · have h1' : rchk X r c M ≠ 0 := h1
      simp only [if_pos h1', law_told_self _ _ _ _ _ h0 h0, beq_self_eq_true, cond_true, law_SameStep_self _ _ _ _ hN' h0]
  simp only [hend]
  unfold foreK
  have e0 : ∀ a : Int, (a != a) = false := by intro a; simp
  by_cases h1 : rchk X r c M = 0
  · have h1' : ¬ (rchk X r c M ≠ 0) := by simpa using h1
    simp only [if_neg h1']
    by_cases h2 : wchk X.length H R = 0
    · have h2' : ¬ (wchk X.length H R ≠ 0) := by simpa using h2
      simp only [if_neg h2']
      cases h3 : fO X M H R X.length with
      | true => simp only [cond_true, law_same _ hz, Bool.not_true, beq_self_eq_true, e0]
      | false =>
        have h4 := fO_fin (wchk_zero h2).2.2.1 h3
        simp only [cond_false, law_same _ h4.1, law_same _ h4.2, Bool.not_true, beq_self_eq_true, cond_true, e0]
    · have h2' : wchk X.length H R ≠ 0 := h2
      simp only [if_pos h2', law_same _ hz, Bool.not_true, beq_self_eq_true, cond_true, e0]
  · have h1' : rchk X r c M ≠ 0 := h1
    simp only [if_pos h1', law_same _ hz, Bool.not_true, beq_self_eq_true, cond_true, e0]

end Go.Proofs.Ytoagmokejfcpbaa
