/-
  THE CHAPTER's FIRST EXAMPLES come out.
  Conditions: a loop's fuel is at least 1000.
-/
import Derived.Test.YtccocdgimamdhaaGreatDoorR1
section
namespace Go.Proofs.YtccocdgimamdhaaGreatDoor
open Go Go.Mach Ieee
set_option linter.unusedVariables false
set_option maxRecDepth 100000
theorem law_awake {N : Nat} (hN : 1000 ≤ N) (k : Bool → Bool) : s_q51 N k = k true := by
  obtain ⟨M, rfl⟩ : ∃ M, N = M + 1000 := ⟨N - 1000, by omega⟩
  kernel_rfl
end Go.Proofs.YtccocdgimamdhaaGreatDoor
end
section
namespace Go.Proofs.YtccocdgimamdhaaGreatDoor
open Go Go.Mach Ieee
set_option linter.unusedVariables false

theorem small_of {N : Nat} (hN : 1000 ≤ N) {n : Nat} (h : n ≤ 48) : Small N n := ⟨by omega, by omega⟩
theorem le3 (a b c : Fl) : [a, b, c].length ≤ 48 := Nat.le_of_ble_eq_true rfl
theorem le4 (a b c d : Fl) : [a, b, c, d].length ≤ 48 := Nat.le_of_ble_eq_true rfl
theorem law_q23 {N : Nat} (xs : List Fl) (hl : Small N xs.length) (k : Bool → Bool) : s_q23 N xs k = k (allFin xs) := by
  unfold s_q23 G_q23
  rw [← cond_k (allFin xs) k]
  refine (iterG_all (fun i => (i : Int)) (fun i => finF (xs.getD i none)) xs.length hl.1 (fun i hi K => ?_) (fun K => ?_) : _)
  · have h2 := hl.2
    simp only [st_quat_finite_0, Int.toNat_natCast, fin_eq]
    rw [dec_true (by omega), cond_true, and_true_of (inR_of (by omega) (by omega)), and_true_of (inR_of (by omega) (by omega)), and_true_of (fits_ok (by omega) (by omega))]
    cases finF (xs.getD i none) <;> rfl
  · simp only [st_quat_finite_0]
    rw [dec_false (by omega), cond_false]
theorem law_Finite4 {N : Nat} (hN : 1000 ≤ N) (a b c d : Fl) (k : Bool → Bool) : s_q40 N a b c d k = k (allFin [a, b, c, d]) :=
  law_AllFinite _ (small_of hN (Nat.le_of_ble_eq_true rfl)) _
theorem law_good {N : Nat} (hN : 1000 ≤ N) (a b c d : Fl) (k : Bool → Bool) : s_q12 N a b c d k = k (allFin [a, b, c, d]) := by
  unfold s_q12 G_q12
  rw [law_q23 _ (small_of hN (Nat.le_of_ble_eq_true rfl))]
  cases allFin [a, b, c, d] <;> rfl
theorem law_told {N : Nat} (hN : 1000 ≤ N) (a b c d : Fl) (k : Fl → Fl → Fl → Fl → Int → Bool) : s_q122 N a b c d k = cond (!allFin [a, b, c, d]) (k (some 0) (some 0) (some 0) (some 0) 5) (k a b c d 0) := by
  unfold s_q122 G_q122
  rw [law_good hN]

theorem FW3 {a b c : Fl} (ha : FW a) (hb : FW b) (hc : FW c) : ∀ i, i < [a, b, c].length → FW ([a, b, c].getD i none) := by
  intro i hi
  match i, hi with
  | 0, _ => exact ha
  | 1, _ => exact hb
  | 2, _ => exact hc
theorem FW4 {a b c d : Fl} (ha : FW a) (hb : FW b) (hc : FW c) (hd : FW d) : ∀ i, i < [a, b, c, d].length → FW ([a, b, c, d].getD i none) := by
  intro i hi
  match i, hi with
  | 0, _ => exact ha
  | 1, _ => exact hb
  | 2, _ => exact hc
  | 3, _ => exact hd

/-! ### no NaN -/
theorem finF_iff (b : Nat) : finF (some b) = decide (b % 9223372036854775808 < 9218868437227405312) := by
  unfold finF Format.read
  simp only [signWeight_d, binade_d, infRung_d]
  by_cases h1 : b % 9223372036854775808 < 4503599627370496
  · rw [if_pos h1, decide_eq_true (by omega)]; rfl
  · rw [if_neg h1]
    by_cases h2 : b % 9223372036854775808 < 9218868437227405312
    · rw [if_pos h2, decide_eq_true h2]; rfl
    · rw [if_neg h2, decide_eq_false h2]
      split <;> rfl
def Nn (x : Fl) : Prop := ∃ b, x = some b ∧ isNaN b = false
theorem Nn_fin {x : Fl} (h : finF x = true) : Nn x := by
  cases x with
  | none => cases h
  | some b =>
    rw [finF_iff] at h
    have := of_decide_eq_true h
    refine ⟨b, rfl, ?_⟩
    rw [Bool.eq_false_iff]
    intro hc
    have := (isNaN_iff b).1 hc
    omega
theorem Nn_zero : Nn (some 0) := ⟨0, rfl, by decide⟩
theorem Nn_word (s : Bool) {r : Nat} (h : r ≤ 9218868437227405312) : Nn (some (Ieee.double.word s r)) := by
  refine ⟨_, rfl, ?_⟩
  rw [Bool.eq_false_iff]
  intro hc
  have h1 := (isNaN_iff _).1 hc
  have hw : Ieee.double.word s r % 9223372036854775808 = r := by
    unfold Format.word; rw [signWeight_d]; cases s <;> simp <;> omega
  omega
theorem Nn_nearest (s : Bool) (m : Nat) (i : Int) : Nn (some (Ieee.double.nearest s m i)) := by
  obtain ⟨r, h, hr⟩ := nearest_le s m i
  rw [h]; exact Nn_word s hr
theorem Nn_inf (s : Bool) : Nn (some (Ieee.double.write (.infinity s))) := by
  have : Ieee.double.write (.infinity s) = Ieee.double.word s 9218868437227405312 := by rw [← infRung_d]; rfl
  rw [this]; exact Nn_word s (Nat.le_refl _)
theorem Nn_fdiv {x y : Fl} (hx : finF x = true) (hy : Dv y) : Nn (fdiv x y) := by
  obtain ⟨a, s, m, i, rfl, ha⟩ := finF_num hx
  obtain ⟨b, rfl, hb⟩ := hy
  show Nn (((Ieee.double.read a).quotient (Ieee.double.fractionBits + 2) (Ieee.double.read b)).map Ieee.double.write)
  rw [ha]
  rcases hb with hb | ⟨n, j, hb, hn⟩
  · rw [hb]; exact Nn_nearest _ _ _
  · rw [hb]; simp only [Datum.quotient, if_neg hn]; exact Nn_nearest _ _ _
theorem fin_fneg (x : Fl) : finF (fneg x) = finF x := by
  cases x with
  | none => rfl
  | some b =>
    show finF (some (b ^^^ 2 ^ 63)) = _
    rw [finF_iff, finF_iff]
    have h : (b ^^^ 2 ^ 63) % 2 ^ 63 = b % 2 ^ 63 := by
      rw [Nat.xor_mod_two_pow, Nat.mod_self, Nat.xor_zero]
    have e : (2 : Nat) ^ 63 = 9223372036854775808 := by decide
    rw [e] at h
    rw [e, h]
theorem law_same (N : Nat) {a : Fl} (h : Nn a) (k : Bool → Bool) : s_q25 N a a k = k true := by
  obtain ⟨b, rfl, hb⟩ := h
  unfold s_q25 G_q25
  show s_q139 N (some b) _ = _
  rw [law_Bits]
  have : bitsF (some b) = b := by simp only [bitsF, cnb, hb]; rfl
  rw [this]
  show k (((b : Nat) : Int) == ((b : Nat) : Int)) = _
  rw [beq_self_eq_true]

abbrev K4 : Type := Fl → Fl → Fl → Fl → Int → Bool
def Both4 (f g : K4 → Bool) : Prop := ∃ a b c d n, (Nn a ∧ Nn b ∧ Nn c ∧ Nn d) ∧ (∀ κ, f κ = κ a b c d n) ∧ (∀ κ, g κ = κ a b c d n)
theorem both_err {f g : K4 → Bool} {n : Int} (hf : ∀ κ, f κ = κ (some 0) (some 0) (some 0) (some 0) n) (hg : ∀ κ, g κ = κ (some 0) (some 0) (some 0) (some 0) n) : Both4 f g :=
  ⟨_, _, _, _, n, ⟨Nn_zero, Nn_zero, Nn_zero, Nn_zero⟩, hf, hg⟩

theorem unit_q {N : Nat} (hN : 1000 ≤ N) {a b c d : Fl} (hall : allFin [a, b, c, d] = true) (hf : FinW [a, b, c, d]) {fr : Fl} {e : Int} (h0 : feq (mostF [a, b, c, d] 4) (some 0) = false)
    (he : ∀ κ : Fl → Int → Bool, s_q92 N (mostF [a, b, c, d] 4) κ = κ fr e) (he1 : -1200 ≤ e) (he2 : e ≤ 1200) (κ : K4) :
    s_q108 N a b c d κ = (fun g => κ (fdiv (sclF a (1 - e)) g) (fdiv (sclF b (1 - e)) g) (fdiv (sclF c (1 - e)) g) (fdiv (sclF d (1 - e)) g) 0) (fsqrt (fadd (fadd (fadd (fadd (some 0) (fmul (sclF a (1 - e)) (sclF a (1 - e)))) (fmul (sclF b (1 - e)) (sclF b (1 - e)))) (fmul (sclF c (1 - e)) (sclF c (1 - e)))) (fmul (sclF d (1 - e)) (sclF d (1 - e))))) := by
  obtain ⟨a1, a2⟩ := hf 0 (Nat.le_of_ble_eq_true rfl)
  obtain ⟨b1, b2⟩ := hf 1 (Nat.le_of_ble_eq_true rfl)
  obtain ⟨c1, c2⟩ := hf 2 (Nat.le_of_ble_eq_true rfl)
  obtain ⟨d1, d2⟩ := hf 3 (Nat.le_of_ble_eq_true rfl)
  have hk : fits .i64 (1 - e) = true := fits_ok (by omega) (by omega)
  unfold s_q108 G_q108
  rw [law_good hN, hall, Bool.not_true, cond_false]
  unfold s_q44 G_q44
  simp only [s_m_Abs]
  have hm : fmm true (fmm true (fmm true (fmm true (some 0) (absF a)) (absF b)) (absF c)) (absF d) = mostF [a, b, c, d] 4 := rfl
  rw [hm, h0, cond_false, he, hk, Bool.true_and]
  refine (law_Ldexp N a1 a2 (by omega) (by omega) _).trans ?_
  rw [Bool.true_and]
  refine (law_Ldexp N b1 b2 (by omega) (by omega) _).trans ?_
  rw [Bool.true_and]
  refine (law_Ldexp N c1 c2 (by omega) (by omega) _).trans ?_
  rw [Bool.true_and]
  refine (law_Ldexp N d1 d2 (by omega) (by omega) _).trans ?_
  rfl
theorem unit_r {N : Nat} (hN : 1000 ≤ N) {a b c d : Fl} (hall : allFin [a, b, c, d] = true) (hf : FinW [a, b, c, d]) {fr : Fl} {e : Int} (h0 : feq (mostF [a, b, c, d] 4) (some 0) = false)
    (he : ∀ κ : Fl → Int → Bool, s_q92 N (mostF [a, b, c, d] 4) κ = κ fr e) (he1 : -1200 ≤ e) (he2 : e ≤ 1200) (κ : K4) :
    s_q162 N a b c d κ = (fun g => κ (fdiv (sclF a (1 - e)) g) (fdiv (sclF b (1 - e)) g) (fdiv (sclF c (1 - e)) g) (fdiv (sclF d (1 - e)) g) 0) (fsqrt (fadd (fadd (fadd (fmul (sclF a (1 - e)) (sclF a (1 - e))) (fmul (sclF b (1 - e)) (sclF b (1 - e)))) (fmul (sclF c (1 - e)) (sclF c (1 - e)))) (fmul (sclF d (1 - e)) (sclF d (1 - e))))) := by
  obtain ⟨a1, a2⟩ := hf 0 (Nat.le_of_ble_eq_true rfl)
  obtain ⟨b1, b2⟩ := hf 1 (Nat.le_of_ble_eq_true rfl)
  obtain ⟨c1, c2⟩ := hf 2 (Nat.le_of_ble_eq_true rfl)
  obtain ⟨d1, d2⟩ := hf 3 (Nat.le_of_ble_eq_true rfl)
  have hk : fits .i64 (1 - e) = true := fits_ok (by omega) (by omega)
  have hk2 : 0 - (e - 1) = 1 - e := by omega
  unfold s_q162 G_q162
  rw [law_Finite4 hN, hall]
  unfold s_q59 G_q59
  rw [Bool.not_true, cond_false]
  dsimp only
  rw [show ((0 : Int) != 0) = false from rfl, cond_false]
  unfold s_q111 G_q111
  refine (law_Power hN (le4 a b c d) _).trans ?_
  rw [show [a, b, c, d].length = 4 from rfl, h0, cond_false, he]
  rw [and_tr (fits_ok (by omega) (by omega)), Bool.not_true, cond_false]
  simp only [hk2, hk, Bool.true_and]
  refine (and_true_of (by rfl)).trans ?_
  refine (and_true_of (by rfl)).trans ?_
  refine (law_Times hN a1 a2 (by omega) (by omega) _).trans ?_
  generalize sclF ([a, b, c, d].getD 0 none) (1 - e) = ya
  refine (and_true_of (by rfl)).trans ?_
  refine (and_true_of (by rfl)).trans ?_
  refine (and_true_of (by rfl)).trans ?_
  refine (and_true_of (by rfl)).trans ?_
  refine (law_Times hN b1 b2 (by omega) (by omega) _).trans ?_
  refine (and_true_of (by rfl)).trans ?_
  refine (and_true_of (by rfl)).trans ?_
  refine (and_true_of (by rfl)).trans ?_
  refine (and_true_of (by rfl)).trans ?_
  refine (law_Times hN c1 c2 (by omega) (by omega) _).trans ?_
  refine (and_true_of (by rfl)).trans ?_
  refine (and_true_of (by rfl)).trans ?_
  refine (and_true_of (by rfl)).trans ?_
  refine (and_true_of (by rfl)).trans ?_
  refine (law_Times hN d1 d2 (by omega) (by omega) _).trans ?_
  kernel_rfl
theorem law_Unit {N : Nat} (hN : 1000 ≤ N) {a b c d : Fl} (ha : FW a) (hb : FW b) (hc : FW c) (hd : FW d) : Both4 (s_q108 N a b c d) (s_q162 N a b c d) := by
  cases hall : allFin [a, b, c, d] with
  | false =>
    refine both_err (n := 4) (fun κ => ?_) (fun κ => ?_)
    · unfold s_q108 G_q108
      rw [law_good hN, hall]; rfl
    · unfold s_q162 G_q162
      rw [law_Finite4 hN, hall]; rfl
  | true =>
    have hf := finW_of (FW4 ha hb hc hd) hall
    cases h0 : feq (mostF [a, b, c, d] 4) (some 0) with
    | true =>
      refine both_err (n := 120) (fun κ => ?_) (fun κ => ?_)
      · unfold s_q108 G_q108
        rw [law_good hN, hall, Bool.not_true, cond_false]
        unfold s_q44 G_q44
        simp only [s_m_Abs]
        have hm : fmm true (fmm true (fmm true (fmm true (some 0) (absF a)) (absF b)) (absF c)) (absF d) = mostF [a, b, c, d] 4 := rfl
        rw [hm, h0, cond_true]
      · unfold s_q162 G_q162
        rw [law_Finite4 hN, hall]
        unfold s_q59 G_q59
        rw [Bool.not_true, cond_false]
        dsimp only
        rw [show ((0 : Int) != 0) = false from rfl, cond_false]
        unfold s_q111 G_q111
        refine (law_Power hN (le4 a b c d) _).trans ?_
        rw [show [a, b, c, d].length = 4 from rfl, h0]; rfl
    | false =>
      obtain ⟨fr, e, he, he1, he2, hfin, j, hj, hge⟩ := scl_facts (N := N) hf h0
      have q := unit_q hN hall hf h0 he he1 he2
      have r := unit_r hN hall hf h0 he he1 he2
      have na : NN (fmul (sclF a (1 - e)) (sclF a (1 - e))) := NN_sclF (hf 0 (Nat.le_of_ble_eq_true rfl)).1 _
      have nb : NN (fmul (sclF b (1 - e)) (sclF b (1 - e))) := NN_sclF (hf 1 (Nat.le_of_ble_eq_true rfl)).1 _
      have nc : NN (fmul (sclF c (1 - e)) (sclF c (1 - e))) := NN_sclF (hf 2 (Nat.le_of_ble_eq_true rfl)).1 _
      have nd : NN (fmul (sclF d (1 - e)) (sclF d (1 - e))) := NN_sclF (hf 3 (Nat.le_of_ble_eq_true rfl)).1 _
      simp only [zero_fadd_NN na] at q
      have hg : GE1 (fadd (fadd (fadd (fmul (sclF a (1 - e)) (sclF a (1 - e))) (fmul (sclF b (1 - e)) (sclF b (1 - e)))) (fmul (sclF c (1 - e)) (sclF c (1 - e)))) (fmul (sclF d (1 - e)) (sclF d (1 - e)))) := by
        match j, hj, hge with
        | 0, _, h => exact GE1_fadd (GE1_fadd (GE1_fadd h nb) nc) nd
        | 1, _, h => exact GE1_fadd (GE1_fadd (GE1_fadd' na h) nc) nd
        | 2, _, h => exact GE1_fadd (GE1_fadd' (NN_fadd na nb) h) nd
        | 3, _, h => exact GE1_fadd' (NN_fadd (NN_fadd na nb) nc) h
      have hv := Dv_fsqrt hg
      exact ⟨_, _, _, _, 0, ⟨Nn_fdiv (hfin 0 (Nat.le_of_ble_eq_true rfl)) hv, Nn_fdiv (hfin 1 (Nat.le_of_ble_eq_true rfl)) hv, Nn_fdiv (hfin 2 (Nat.le_of_ble_eq_true rfl)) hv, Nn_fdiv (hfin 3 (Nat.le_of_ble_eq_true rfl)) hv⟩, q, r⟩

theorem law_quats (N : Nat) {a b c d : Fl} (h : Nn a ∧ Nn b ∧ Nn c ∧ Nn d) (n : Int) (k : Bool → Bool) : s_q47 N a b c d n a b c d n k = k true := by
  unfold s_q47 G_q47
  rw [law_same N h.1, show (true == true) = true from rfl, cond_true, law_same N h.2.1, show (true == true) = true from rfl, cond_true, law_same N h.2.2.1, show (true == true) = true from rfl, cond_true, law_same N h.2.2.2, show (true == true) = true from rfl, cond_true, beq_self_eq_true]

end Go.Proofs.YtccocdgimamdhaaGreatDoor
end
section
namespace Go.Proofs.YtccocdgimamdhaaGreatDoor
open Go Go.Mach Ieee
set_option linter.unusedVariables false
set_option maxRecDepth 4000

theorem law_good2 {N : Nat} (hN : 1000 ≤ N) (a b c d p q r s : Fl) (k : Bool → Bool) : s_q45 N a b c d p q r s k = k (allFin [a, b, c, d] && allFin [p, q, r, s]) := by
  unfold s_q45 G_q45
  rw [law_q23 _ (small_of hN (Nat.le_of_ble_eq_true rfl))]
  cases allFin [a, b, c, d]
  · rfl
  · rw [Bool.not_true, cond_false, law_q23 _ (small_of hN (Nat.le_of_ble_eq_true rfl))]
    cases allFin [p, q, r, s] <;> rfl
theorem allFin_one {N : Nat} (hN : 1000 ≤ N) (x : Fl) (k : Bool → Bool) : s_q23 N [x] k = k (finF x) := by
  rw [law_q23 [x] (small_of hN (Nat.le_of_ble_eq_true rfl))]
  have : allFin [x] = finF x := by
    show (allN _ 1) = _
    rw [Bool.eq_iff_iff, allN_iff]
    constructor
    · intro h; exact h 0 (by decide)
    · intro h i hi
      have : i = 0 := by omega
      subst this; exact h
  rw [this]
theorem fin4 {a b c d : Fl} (h : allFin [a, b, c, d] = true) : finF a = true ∧ finF b = true ∧ finF c = true ∧ finF d = true := by
  have h := allN_iff.1 h
  exact ⟨h 0 (Nat.le_of_ble_eq_true rfl), h 1 (Nat.le_of_ble_eq_true rfl), h 2 (Nat.le_of_ble_eq_true rfl), h 3 (Nat.le_of_ble_eq_true rfl)⟩
/-! ### dot products, the nearest -/
def dotQ (a b c d p q r s : Fl) : Fl := fadd (fadd (fadd (fmul a p) (fmul b q)) (fmul c r)) (fmul d s)
theorem law_Dot {N : Nat} (hN : 1000 ≤ N) (a b c d p q r s : Fl) (κ : Fl → Int → Bool) : s_q171 N a b c d p q r s κ = cond (allFin [a, b, c, d] && allFin [p, q, r, s]) (cond (finF (dotQ a b c d p q r s)) (κ (dotQ a b c d p q r s) 0) (κ (some 0) 5)) (κ (some 0) 4) := by
  unfold s_q171 G_q171
  rw [law_good2 hN]
  cases (allFin [a, b, c, d] && allFin [p, q, r, s])
  · rfl
  · rw [Bool.not_true, cond_false, allFin_one hN, cond_true]
    show cond (!finF (dotQ a b c d p q r s)) _ _ = _
    cases finF (dotQ a b c d p q r s) <;> rfl
theorem law_ref_Dot {N : Nat} (hN : 1000 ≤ N) (a b c d p q r s : Fl) (κ : Fl → Int → Bool) : s_q182 N a b c d p q r s κ = cond (allFin [a, b, c, d] && allFin [p, q, r, s]) (cond (finF (dotQ a b c d p q r s)) (κ (dotQ a b c d p q r s) 0) (κ (some 0) 5)) (κ (some 0) 4) := by
  unfold s_q182 G_q182
  rw [law_Finite4 hN, law_Finite4 hN]
  unfold s_q61 G_q61
  cases allFin [a, b, c, d] <;> cases allFin [p, q, r, s]
  · rfl
  · rfl
  · rfl
  · rw [Bool.not_true, cond_false, cond_false]
    dsimp only
    rw [show ((0 : Int) != 0) = false from rfl, cond_false]
    show s_q50 N (dotQ a b c d p q r s) _ = _
    rw [law_ref_Finite]
    cases finF (dotQ a b c d p q r s) <;> rfl
theorem law_Nearest {N : Nat} (hN : 1000 ≤ N) (a b c d p q r s : Fl) : Both4 (s_q70 N a b c d p q r s) (s_q81 N a b c d p q r s) := by
  have e1 : ∀ κ, s_q70 N a b c d p q r s κ = s_q171 N a b c d p q r s (fun x n => cond (n != 0) (κ (some 0) (some 0) (some 0) (some 0) n) (cond (flt x (some 0)) (κ (fneg p) (fneg q) (fneg r) (fneg s) 0) (κ p q r s 0))) := fun _ => rfl
  have e2 : ∀ κ, s_q81 N a b c d p q r s κ = s_q182 N a b c d p q r s (fun x n => cond (n != 0) (κ (some 0) (some 0) (some 0) (some 0) n) (cond (flt x (some 0)) (κ (fneg p) (fneg q) (fneg r) (fneg s) 0) (κ p q r s 0))) := fun _ => rfl
  simp only [law_Dot hN] at e1
  simp only [law_ref_Dot hN] at e2
  cases h1 : (allFin [a, b, c, d] && allFin [p, q, r, s]) with
  | false => exact both_err (n := 4) (fun κ => by rw [e1, h1]; rfl) (fun κ => by rw [e2, h1]; rfl)
  | true =>
    obtain ⟨f0, f1, f2, f3⟩ := fin4 (by simpa using (Bool.and_eq_true _ _ ▸ h1 : _ ∧ _).2)
    cases h2 : finF (dotQ a b c d p q r s) with
    | false => exact both_err (n := 5) (fun κ => by rw [e1, h1, h2]; rfl) (fun κ => by rw [e2, h1, h2]; rfl)
    | true =>
      cases h3 : flt (dotQ a b c d p q r s) (some 0) with
      | true => exact ⟨_, _, _, _, 0, ⟨Nn_fin (by rw [fin_fneg]; exact f0), Nn_fin (by rw [fin_fneg]; exact f1), Nn_fin (by rw [fin_fneg]; exact f2), Nn_fin (by rw [fin_fneg]; exact f3)⟩, fun κ => by rw [e1, h1, h2, h3]; rfl, fun κ => by rw [e2, h1, h2, h3]; rfl⟩
      | false => exact ⟨_, _, _, _, 0, ⟨Nn_fin f0, Nn_fin f1, Nn_fin f2, Nn_fin f3⟩, fun κ => by rw [e1, h1, h2, h3]; rfl, fun κ => by rw [e2, h1, h2, h3]; rfl⟩

/-! ### mixed -/
theorem law_Mix {N : Nat} (hN : 1000 ≤ N) (a b c d p q r s t : Fl) : Both4 (s_q151 N a b c d p q r s t) (s_q178 N a b c d p q r s t) := by
  have n0 : ((0 : Int) != 0) = false := rfl
  obtain ⟨x, y, z, w, n, -, f, g⟩ := law_Nearest hN a b c d p q r s
  have e1 : ∀ κ, s_q151 N a b c d p q r s t κ = G_q151 (N + 24) (s_q45 N) (s_q23 N) (s_q70 N) (s_q44 N) (s_q119 N) (s_q122 N) (s_q108 N) a b c d p q r s t κ := fun _ => rfl
  have e2 : ∀ κ, s_q178 N a b c d p q r s t κ = s_q40 N a b c d (fun c1 => s_q40 N p q r s (fun c2 => s_q50 N t (fun c3 => s_q89 N c1 c2 c3 (fun n => cond (n != 0) (κ (some 0) (some 0) (some 0) (some 0) n) (s_q81 N a b c d p q r s (fun x y z w n => cond (n != 0) (κ (some 0) (some 0) (some 0) (some 0) n)
      (s_q49 N [fadd (fmul (fsub (some 4607182418800017408) t) a) (fmul t x), fadd (fmul (fsub (some 4607182418800017408) t) b) (fmul t y), fadd (fmul (fsub (some 4607182418800017408) t) c) (fmul t z), fadd (fmul (fsub (some 4607182418800017408) t) d) (fmul t w)]
        (fun cr => cond (!cr) (κ (some 0) (some 0) (some 0) (some 0) 5) (s_q162 N (fadd (fmul (fsub (some 4607182418800017408) t) a) (fmul t x)) (fadd (fmul (fsub (some 4607182418800017408) t) b) (fmul t y)) (fadd (fmul (fsub (some 4607182418800017408) t) c) (fmul t z)) (fadd (fmul (fsub (some 4607182418800017408) t) d) (fmul t w)) κ))))))))) := fun κ => by kernel_rfl
  simp only [law_Finite4 hN, law_ref_Finite, g] at e2
  have e1' : ∀ κ, s_q151 N a b c d p q r s t κ = cond (allFin [a, b, c, d] && allFin [p, q, r, s]) (cond (finF t) (cond (n != 0) (κ (some 0) (some 0) (some 0) (some 0) n)
      (cond (!allFin [fadd (fmul (fsub (some 4607182418800017408) t) a) (fmul t x), fadd (fmul (fsub (some 4607182418800017408) t) b) (fmul t y), fadd (fmul (fsub (some 4607182418800017408) t) c) (fmul t z), fadd (fmul (fsub (some 4607182418800017408) t) d) (fmul t w)]) (κ (some 0) (some 0) (some 0) (some 0) 5)
        (s_q108 N (fadd (fmul (fsub (some 4607182418800017408) t) a) (fmul t x)) (fadd (fmul (fsub (some 4607182418800017408) t) b) (fmul t y)) (fadd (fmul (fsub (some 4607182418800017408) t) c) (fmul t z)) (fadd (fmul (fsub (some 4607182418800017408) t) d) (fmul t w)) κ))) (κ (some 0) (some 0) (some 0) (some 0) 4)) (κ (some 0) (some 0) (some 0) (some 0) 4) := by
    intro κ
    rw [e1]
    unfold G_q151
    rw [law_good2 hN]
    cases (allFin [a, b, c, d] && allFin [p, q, r, s])
    · rfl
    · rw [show ((!true) == false) = true from rfl, cond_true, cond_true, allFin_one hN]
      cases finF t
      · rfl
      · rw [Bool.not_true, cond_false, cond_true, f]
        unfold s_q44 G_q44 s_q119 G_q119
        cases (n != 0)
        · rw [cond_false, cond_false, law_told hN]
          cases allFin [fadd (fmul (fsub (some 4607182418800017408) t) a) (fmul t x), fadd (fmul (fsub (some 4607182418800017408) t) b) (fmul t y), fadd (fmul (fsub (some 4607182418800017408) t) c) (fmul t z), fadd (fmul (fsub (some 4607182418800017408) t) d) (fmul t w)]
          · rfl
          · rfl
        · rfl
  clear e1
  unfold s_q89 G_q89 at e2
  cases h1 : allFin [a, b, c, d] with
  | false => exact both_err (n := 4) (fun κ => by rw [e1', h1]; rfl) (fun κ => by rw [e2, h1]; rfl)
  | true =>
    cases h2 : allFin [p, q, r, s] with
    | false => exact both_err (n := 4) (fun κ => by rw [e1', h1, h2]; rfl) (fun κ => by rw [e2, h1, h2]; rfl)
    | true =>
      cases h3 : finF t with
      | false => exact both_err (n := 4) (fun κ => by rw [e1', h1, h2, h3]; rfl) (fun κ => by rw [e2, h1, h2, h3]; rfl)
      | true =>
        cases h4 : (n != 0) with
        | true => exact both_err (n := n) (fun κ => by rw [e1', h1, h2, h3, h4]; rfl) (fun κ => by rw [e2, h1, h2, h3]; dsimp only; rw [h4]; rfl)
        | false =>
          obtain ⟨x', y', z', w', m, hs, f', g'⟩ := law_Unit hN (FW_fadd (fmul (fsub (some 4607182418800017408) t) a) (fmul t x)) (FW_fadd (fmul (fsub (some 4607182418800017408) t) b) (fmul t y)) (FW_fadd (fmul (fsub (some 4607182418800017408) t) c) (fmul t z)) (FW_fadd (fmul (fsub (some 4607182418800017408) t) d) (fmul t w))
          have e3 : ∀ κ, s_q178 N a b c d p q r s t κ = cond (!allFin [fadd (fmul (fsub (some 4607182418800017408) t) a) (fmul t x), fadd (fmul (fsub (some 4607182418800017408) t) b) (fmul t y), fadd (fmul (fsub (some 4607182418800017408) t) c) (fmul t z), fadd (fmul (fsub (some 4607182418800017408) t) d) (fmul t w)]) (κ (some 0) (some 0) (some 0) (some 0) 5) (κ x' y' z' w' m) := by
            intro κ
            rw [e2, h1, h2, h3]
            dsimp only
            rw [Bool.not_true, cond_false, cond_false, cond_false, n0, cond_false, h4, cond_false, law_AllFinite _ (small_of hN (Nat.le_of_ble_eq_true rfl)), g']
          have e4 : ∀ κ, s_q151 N a b c d p q r s t κ = cond (!allFin [fadd (fmul (fsub (some 4607182418800017408) t) a) (fmul t x), fadd (fmul (fsub (some 4607182418800017408) t) b) (fmul t y), fadd (fmul (fsub (some 4607182418800017408) t) c) (fmul t z), fadd (fmul (fsub (some 4607182418800017408) t) d) (fmul t w)]) (κ (some 0) (some 0) (some 0) (some 0) 5) (κ x' y' z' w' m) := by
            intro κ
            rw [e1', h1, h2, h3, h4, f']
            rfl
          cases h5 : allFin [fadd (fmul (fsub (some 4607182418800017408) t) a) (fmul t x), fadd (fmul (fsub (some 4607182418800017408) t) b) (fmul t y), fadd (fmul (fsub (some 4607182418800017408) t) c) (fmul t z), fadd (fmul (fsub (some 4607182418800017408) t) d) (fmul t w)] with
          | false => exact both_err (n := 5) (fun κ => by rw [e4, h5]; rfl) (fun κ => by rw [e3, h5]; rfl)
          | true => exact ⟨x', y', z', w', m, hs, fun κ => by rw [e4, h5]; rfl, fun κ => by rw [e3, h5]; rfl⟩

/-! ### how far apart -/
def Both1 (f g : (Fl → Int → Bool) → Bool) : Prop := ∃ x n, Nn x ∧ (∀ κ, f κ = κ x n) ∧ (∀ κ, g κ = κ x n)
def mulK (a b c d p q r s : Fl) (κ : K4) : Bool := κ (fsub (fsub (fsub (fmul a p) (fmul b q)) (fmul c r)) (fmul d s)) (fsub (fadd (fadd (fmul a q) (fmul b p)) (fmul c s)) (fmul d r)) (fadd (fadd (fsub (fmul a r) (fmul b s)) (fmul c p)) (fmul d q)) (fadd (fsub (fadd (fmul a s) (fmul b r)) (fmul c q)) (fmul d p)) 0
theorem law_Mul {N : Nat} (hN : 1000 ≤ N) (a b c d p q r s : Fl) : ∃ x y z w n, (FW x ∧ FW y ∧ FW z ∧ FW w) ∧ (Nn x ∧ Nn y ∧ Nn z ∧ Nn w) ∧ (∀ κ, s_q133 N a b c d p q r s κ = κ x y z w n) ∧ (∀ κ, s_q183 N a b c d p q r s κ = κ x y z w n) := by
  have e1 : ∀ κ, s_q133 N a b c d p q r s κ = cond (allFin [a, b, c, d] && allFin [p, q, r, s]) (mulK a b c d p q r s (fun x y z w _ => cond (!allFin [x, y, z, w]) (κ (some 0) (some 0) (some 0) (some 0) 5) (κ x y z w 0))) (κ (some 0) (some 0) (some 0) (some 0) 4) := by
    intro κ
    unfold s_q133 G_q133
    rw [law_good2 hN]
    cases (allFin [a, b, c, d] && allFin [p, q, r, s])
    · rfl
    · rw [Bool.not_true, cond_false, cond_true]
      unfold s_q173 G_q173 mulK
      dsimp only
      rw [law_told hN]
  have e2 : ∀ κ, s_q183 N a b c d p q r s κ = cond (allFin [a, b, c, d] && allFin [p, q, r, s]) (mulK a b c d p q r s (fun x y z w _ => cond (!allFin [x, y, z, w]) (κ (some 0) (some 0) (some 0) (some 0) 5) (κ x y z w 0))) (κ (some 0) (some 0) (some 0) (some 0) 4) := by
    intro κ
    unfold s_q183 G_q183
    rw [law_Finite4 hN, law_Finite4 hN]
    unfold s_q61 G_q61
    cases allFin [a, b, c, d] <;> cases allFin [p, q, r, s]
    · rfl
    · rfl
    · rfl
    · rw [Bool.not_true, cond_false, cond_false]
      dsimp only
      rw [show ((0 : Int) != 0) = false from rfl, cond_false]
      unfold s_q126 G_q126 s_q176 G_q176 mulK
      dsimp only
      rw [law_Finite4 hN]
      rfl
  unfold mulK at e1 e2
  dsimp only at e1 e2
  cases h1 : (allFin [a, b, c, d] && allFin [p, q, r, s]) with
  | false => exact ⟨_, _, _, _, 4, ⟨FW_zero, FW_zero, FW_zero, FW_zero⟩, ⟨Nn_zero, Nn_zero, Nn_zero, Nn_zero⟩, fun κ => by rw [e1, h1]; rfl, fun κ => by rw [e2, h1]; rfl⟩
  | true =>
    cases h2 : allFin [fsub (fsub (fsub (fmul a p) (fmul b q)) (fmul c r)) (fmul d s), fsub (fadd (fadd (fmul a q) (fmul b p)) (fmul c s)) (fmul d r), fadd (fadd (fsub (fmul a r) (fmul b s)) (fmul c p)) (fmul d q), fadd (fsub (fadd (fmul a s) (fmul b r)) (fmul c q)) (fmul d p)] with
    | false => exact ⟨_, _, _, _, 5, ⟨FW_zero, FW_zero, FW_zero, FW_zero⟩, ⟨Nn_zero, Nn_zero, Nn_zero, Nn_zero⟩, fun κ => by rw [e1, h1, h2]; rfl, fun κ => by rw [e2, h1, h2]; rfl⟩
    | true =>
      obtain ⟨f0, f1, f2, f3⟩ := fin4 h2
      exact ⟨_, _, _, _, 0, ⟨FW_fsub _ _, FW_fsub _ _, FW_fadd _ _, FW_fadd _ _⟩, ⟨Nn_fin f0, Nn_fin f1, Nn_fin f2, Nn_fin f3⟩, fun κ => by rw [e1, h1, h2]; rfl, fun κ => by rw [e2, h1, h2]; rfl⟩
theorem law_Apart {N : Nat} (hN : 1000 ≤ N) (a b c d p q r s : Fl) : Both1 (s_q123 N a b c d p q r s) (s_q135 N a b c d p q r s) := by
  obtain ⟨x, y, z, w, n, ⟨w0, w1, w2, w3⟩, -, f, g⟩ := law_Mul hN a (fneg b) (fneg c) (fneg d) p q r s
  obtain ⟨l, m, hl, lf, lg⟩ := law_LengthF hN (xs := [y, z, w]) (le3 y z w) (FW3 w1 w2 w3)
  have e1 : ∀ κ, s_q123 N a b c d p q r s κ = cond (allFin [a, b, c, d] && allFin [p, q, r, s]) (cond (n != 0) (κ (some 0) n) (κ l m)) (κ (some 0) 4) := by
    intro κ
    unfold s_q123 G_q123
    rw [law_good2 hN]
    cases h1 : (allFin [a, b, c, d] && allFin [p, q, r, s])
    · rfl
    · have h2 : allFin [a, b, c, d] = true := by
        cases h3 : allFin [a, b, c, d]
        · rw [h3] at h1; cases h1
        · rfl
      rw [Bool.not_true, cond_false, cond_true]
      unfold s_q157 G_q157
      rw [law_good hN, h2, Bool.not_true, cond_false]
      dsimp only
      rw [f, lf]
  have e2 : ∀ κ, s_q135 N a b c d p q r s κ = cond (allFin [a, b, c, d]) (cond (n != 0) (κ (some 0) n) (κ l m)) (κ (some 0) 4) := by
    intro κ
    unfold s_q135 G_q135 s_q175 G_q175
    rw [law_Finite4 hN]
    unfold s_q59 G_q59
    cases allFin [a, b, c, d]
    · rfl
    · rw [Bool.not_true, cond_false]
      dsimp only
      rw [show ((0 : Int) != 0) = false from rfl, cond_false, cond_false, g, lg, cond_true]
  cases h1 : allFin [a, b, c, d] with
  | false => exact ⟨some 0, 4, Nn_zero, fun κ => by rw [e1, h1]; rfl, fun κ => by rw [e2, h1]; rfl⟩
  | true =>
    cases h2 : allFin [p, q, r, s] with
    | false =>
      -- the product says the same
      have hn : n = 4 := by
        have h3 := f (fun _ _ _ _ n => decide (n = 4))
        unfold s_q133 G_q133 at h3
        rw [law_good2 hN, h2, Bool.and_false, Bool.not_false, cond_true] at h3
        exact of_decide_eq_true h3.symm
      subst hn
      exact ⟨some 0, 4, Nn_zero, fun κ => by rw [e1, h1, h2]; rfl, fun κ => by rw [e2, h1]; rfl⟩
    | true =>
      cases h3 : (n != 0) with
      | true => exact ⟨some 0, n, Nn_zero, fun κ => by rw [e1, h1, h2, h3]; rfl, fun κ => by rw [e2, h1, h3]; rfl⟩
      | false => exact ⟨l, m, Nn_fin hl, fun κ => by rw [e1, h1, h2, h3]; rfl, fun κ => by rw [e2, h1, h3]; rfl⟩

/-- the law -/
theorem law_QuatMixes {N : Nat} (hN : 1000 ≤ N) (x0 x1 x2 x3 y0 y1 y2 y3 t : Int) (k : Bool → Bool) : s_q58 N x0 x1 x2 x3 y0 y1 y2 y3 t k = k true := by
  have hv : ∀ (x y z w : Int) (k : Fl → Fl → Fl → Fl → Bool), s_q43 N x y z w k = k (canon x.toNat) (canon y.toNat) (canon z.toNat) (canon w.toNat) := fun _ _ _ _ _ => rfl
  have hf : ∀ (x : Int) (k : Fl → Bool), s_q48 N x k = k (canon x.toNat) := fun _ _ => rfl
  unfold s_q58 G_q58
  simp only [hv, hf]
  generalize canon x0.toNat = a
  generalize canon x1.toNat = b
  generalize canon x2.toNat = c
  generalize canon x3.toNat = d
  generalize canon y0.toNat = p
  generalize canon y1.toNat = q
  generalize canon y2.toNat = r
  generalize canon y3.toNat = s
  generalize canon t.toNat = u
  obtain ⟨m0, m1, m2, m3, m4, ms, mf, mg⟩ := law_Nearest hN a b c d p q r s
  obtain ⟨v0, v1, v2, v3, v4, vs, vf, vg⟩ := law_Mix hN a b c d p q r s u
  obtain ⟨l, n, hl, lf, lg⟩ := law_Apart hN a b c d p q r s
  rw [mf, mg, law_quats N ms, show ((!true) == false) = true from rfl, cond_true, law_awake hN, Bool.not_true, cond_false, vf, vg, law_quats N vs, Bool.not_true, cond_false, lf, lg, law_same N hl, show (true == true) = true from rfl, cond_true, beq_self_eq_true]

end Go.Proofs.YtccocdgimamdhaaGreatDoor
end
