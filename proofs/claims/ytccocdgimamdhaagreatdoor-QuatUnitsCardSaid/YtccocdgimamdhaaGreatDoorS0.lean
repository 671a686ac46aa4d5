/-
  THE CHAPTER's FIRST EXAMPLES come out.
  Conditions: a loop's fuel is at least 1000.
-/
import Derived.Test.YtccocdgimamdhaaGreatDoorGp
import Derived.Test.YtccocdgimamdhaaGreatDoorR6
section
namespace Go.Proofs.YtccocdgimamdhaaGreatDoor
open Go Go.Mach Ieee
set_option linter.unusedVariables false
set_option maxRecDepth 100000
theorem law_awake {N : Nat} (hN : 1000 <= N) (k : Bool -> Bool) : sj55 N k = k true := by
  obtain ⟨M, rfl⟩ : ∃ M, N = M + 1000 := ⟨N - 1000, by omega⟩
  kernel_rfl
end Go.Proofs.YtccocdgimamdhaaGreatDoor
end
section
namespace Go.Proofs.YtccocdgimamdhaaGreatDoor
open Go Go.Mach Ieee
set_option linter.unusedVariables false

theorem small_of {N : Nat} (hN : 1000 <= N) {n : Nat} (h : n <= 48) : Small N n := ⟨by omega, by omega⟩
theorem le4 (a b c d : Fl) : [a, b, c, d].length <= 48 := Nat.le_of_ble_eq_true rfl
theorem lawj35 {N : Nat} (xs : List Fl) (hl : Small N xs.length) (k : Bool -> Bool) : sj35 N xs k = k (allFin xs) := by
  unfold sj35 Gj35
  rw [<- cond_k (allFin xs) k]
  refine (iterG_all (fun i => (i : Int)) (fun i => finF (xs.getD i none)) xs.length hl.1 (fun i hi K => ?_) (fun K => ?_) : _)
  · have h2 := hl.2
    simp only [st_quat_finite_0, Int.toNat_natCast, fin_eq]
    rw [dec_true (by omega), cond_true, and_true_of (inR_of (by omega) (by omega)), and_true_of (inR_of (by omega) (by omega)), and_true_of (fits_ok (by omega) (by omega))]
    cases finF (xs.getD i none) <;> rfl
  · simp only [st_quat_finite_0]
    rw [dec_false (by omega), cond_false]
theorem law_Finite4 {N : Nat} (hN : 1000 <= N) (a b c d : Fl) (k : Bool -> Bool) : sj44 N a b c d k = k (allFin [a, b, c, d]) :=
  law_AllFinite _ (small_of hN (Nat.le_of_ble_eq_true rfl)) _
theorem law_good {N : Nat} (hN : 1000 <= N) (a b c d : Fl) (k : Bool -> Bool) : sj15 N a b c d k = k (allFin [a, b, c, d]) := by
  unfold sj15 Gj15
  rw [lawj35 _ (small_of hN (Nat.le_of_ble_eq_true rfl))]
  cases allFin [a, b, c, d] <;> rfl
theorem law_told {N : Nat} (hN : 1000 <= N) (a b c d : Fl) (k : Fl -> Fl -> Fl -> Fl -> Int -> Bool) : sj165 N a b c d k = cond (!allFin [a, b, c, d]) (k (some 0) (some 0) (some 0) (some 0) 5) (k a b c d 0) := by
  unfold sj165 Gj165
  rw [law_good hN]

theorem FW4 {a b c d : Fl} (ha : FW a) (hb : FW b) (hc : FW c) (hd : FW d) : ∀ i, i < [a, b, c, d].length -> FW ([a, b, c, d].getD i none) := by
  intro i hi
  match i, hi with
  | 0, _ => exact ha
  | 1, _ => exact hb
  | 2, _ => exact hc
  | 3, _ => exact hd

theorem finF_iff (b : Nat) : finF (some b) = decide (b % 9223372036854775808 < 9218868437227405312) := by
  unfold finF Format.read
  simp only [signWeight_d, binade_d, infRung_d]
  by_cases h1 : b % 9223372036854775808 < 4503599627370496
  · rw [if_pos h1, decide_eq_true (by omega)]; rfl
  · rw [if_neg h1]
    by_cases h2 : b % 9223372036854775808 < 9218868437227405312
    · rw [if_pos h2, decide_eq_true h2]; rfl
    · rw [if_neg h2, decide_eq_false h2]
      split <;> rfl
def Nn (x : Fl) : Prop := ∃ b, x = some b /\ isNaN b = false
theorem Nn_fin {x : Fl} (h : finF x = true) : Nn x := by
  cases x with
  | none => cases h
  | some b =>
    rw [finF_iff] at h
    have := of_decide_eq_true h
    refine ⟨b, rfl, ?_⟩
    rw [Bool.eq_false_iff]
    intro hc
    have := (isNaN_iff b).1 hc
    omega
theorem Nn_zero : Nn (some 0) := ⟨0, rfl, by decide⟩
theorem Nn_word (s : Bool) {r : Nat} (h : r <= 9218868437227405312) : Nn (some (Ieee.double.word s r)) := by
  refine ⟨_, rfl, ?_⟩
  rw [Bool.eq_false_iff]
  intro hc
  have h1 := (isNaN_iff _).1 hc
  have hw : Ieee.double.word s r % 9223372036854775808 = r := by
    unfold Format.word; rw [signWeight_d]; cases s <;> simp <;> omega
  omega
theorem Nn_nearest (s : Bool) (m : Nat) (i : Int) : Nn (some (Ieee.double.nearest s m i)) := by
  obtain ⟨r, h, hr⟩ := nearest_le s m i
  rw [h]; exact Nn_word s hr
theorem Nn_fdiv {x y : Fl} (hx : finF x = true) (hy : Dv y) : Nn (fdiv x y) := by
  obtain ⟨a, s, m, i, rfl, ha⟩ := finF_num hx
  obtain ⟨b, rfl, hb⟩ := hy
  show Nn (((Ieee.double.read a).quotient (Ieee.double.fractionBits + 2) (Ieee.double.read b)).map Ieee.double.write)
  rw [ha]
  rcases hb with hb | ⟨n, j, hb, hn⟩
  · rw [hb]; exact Nn_nearest _ _ _
  · rw [hb]; simp only [Datum.quotient, if_neg hn]; exact Nn_nearest _ _ _
theorem fin_fneg (x : Fl) : finF (fneg x) = finF x := by
  cases x with
  | none => rfl
  | some b =>
    show finF (some (b ^^^ 2 ^ 63)) = _
    rw [finF_iff, finF_iff]
    have h : (b ^^^ 2 ^ 63) % 2 ^ 63 = b % 2 ^ 63 := by
      rw [Nat.xor_mod_two_pow, Nat.mod_self, Nat.xor_zero]
    have e : (2 : Nat) ^ 63 = 9223372036854775808 := by decide
    rw [e] at h
    rw [e, h]
theorem law_same (N : Nat) {a : Fl} (h : Nn a) (k : Bool -> Bool) : sj28 N a a k = k true := by
  obtain ⟨b, rfl, hb⟩ := h
  unfold sj28 Gj28
  show sj144 N (some b) _ = _
  rw [law_Bits]
  have : bitsF (some b) = b := by simp only [bitsF, cnb, hb]; rfl
  rw [this]
  show k (((b : Nat) : Int) == ((b : Nat) : Int)) = _
  rw [beq_self_eq_true]

abbrev K4 : Type := Fl -> Fl -> Fl -> Fl -> Int -> Bool
def Both4 (f g : K4 -> Bool) : Prop := ∃ a b c d n, (Nn a /\ Nn b /\ Nn c /\ Nn d) /\ (∀ κ, f κ = κ a b c d n) /\ (∀ κ, g κ = κ a b c d n)
theorem both_err {f g : K4 -> Bool} {n : Int} (hf : ∀ κ, f κ = κ (some 0) (some 0) (some 0) (some 0) n) (hg : ∀ κ, g κ = κ (some 0) (some 0) (some 0) (some 0) n) : Both4 f g :=
  ⟨_, _, _, _, n, ⟨Nn_zero, Nn_zero, Nn_zero, Nn_zero⟩, hf, hg⟩

theorem unit_q {N : Nat} (hN : 1000 <= N) {a b c d : Fl} (hall : allFin [a, b, c, d] = true) (hf : FinW [a, b, c, d]) {fr : Fl} {e : Int} (h0 : feq (mostF [a, b, c, d] 4) (some 0) = false)
    (he : ∀ κ : Fl -> Int -> Bool, sj136 N (mostF [a, b, c, d] 4) κ = κ fr e) (he1 : -1200 <= e) (he2 : e <= 1200) (κ : K4) :
    sj89 N a b c d κ = (fun g => κ (fdiv (sclF a (1 - e)) g) (fdiv (sclF b (1 - e)) g) (fdiv (sclF c (1 - e)) g) (fdiv (sclF d (1 - e)) g) 0) (fsqrt (fadd (fadd (fadd (fadd (some 0) (fmul (sclF a (1 - e)) (sclF a (1 - e)))) (fmul (sclF b (1 - e)) (sclF b (1 - e)))) (fmul (sclF c (1 - e)) (sclF c (1 - e)))) (fmul (sclF d (1 - e)) (sclF d (1 - e))))) := by
  obtain ⟨a1, a2⟩ := hf 0 (Nat.le_of_ble_eq_true rfl)
  obtain ⟨b1, b2⟩ := hf 1 (Nat.le_of_ble_eq_true rfl)
  obtain ⟨c1, c2⟩ := hf 2 (Nat.le_of_ble_eq_true rfl)
  obtain ⟨d1, d2⟩ := hf 3 (Nat.le_of_ble_eq_true rfl)
  have hk : fits .i64 (1 - e) = true := fits_ok (by omega) (by omega)
  unfold sj89 Gj89
  rw [law_good hN, hall, Bool.not_true, cond_false]
  unfold sj60 Gj60
  simp only [s_m_Abs]
  have hm : fmm true (fmm true (fmm true (fmm true (some 0) (absF a)) (absF b)) (absF c)) (absF d) = mostF [a, b, c, d] 4 := rfl
  rw [hm, h0, cond_false, he, hk, Bool.true_and]
  refine (law_Ldexp N a1 a2 (by omega) (by omega) _).trans ?_
  rw [Bool.true_and]
  refine (law_Ldexp N b1 b2 (by omega) (by omega) _).trans ?_
  rw [Bool.true_and]
  refine (law_Ldexp N c1 c2 (by omega) (by omega) _).trans ?_
  rw [Bool.true_and]
  refine (law_Ldexp N d1 d2 (by omega) (by omega) _).trans ?_
  rfl
theorem unit_r {N : Nat} (hN : 1000 <= N) {a b c d : Fl} (hall : allFin [a, b, c, d] = true) (hf : FinW [a, b, c, d]) {fr : Fl} {e : Int} (h0 : feq (mostF [a, b, c, d] 4) (some 0) = false)
    (he : ∀ κ : Fl -> Int -> Bool, sj136 N (mostF [a, b, c, d] 4) κ = κ fr e) (he1 : -1200 <= e) (he2 : e <= 1200) (κ : K4) :
    sj129 N a b c d κ = (fun g => κ (fdiv (sclF a (1 - e)) g) (fdiv (sclF b (1 - e)) g) (fdiv (sclF c (1 - e)) g) (fdiv (sclF d (1 - e)) g) 0) (fsqrt (fadd (fadd (fadd (fmul (sclF a (1 - e)) (sclF a (1 - e))) (fmul (sclF b (1 - e)) (sclF b (1 - e)))) (fmul (sclF c (1 - e)) (sclF c (1 - e)))) (fmul (sclF d (1 - e)) (sclF d (1 - e))))) := by
  obtain ⟨a1, a2⟩ := hf 0 (Nat.le_of_ble_eq_true rfl)
  obtain ⟨b1, b2⟩ := hf 1 (Nat.le_of_ble_eq_true rfl)
  obtain ⟨c1, c2⟩ := hf 2 (Nat.le_of_ble_eq_true rfl)
  obtain ⟨d1, d2⟩ := hf 3 (Nat.le_of_ble_eq_true rfl)
  have hk : fits .i64 (1 - e) = true := fits_ok (by omega) (by omega)
  have hk2 : 0 - (e - 1) = 1 - e := by omega
  unfold sj129 Gj129
  rw [law_Finite4 hN, hall]
  unfold sj64 Gj64
  rw [Bool.not_true, cond_false]
  dsimp only
  rw [show ((0 : Int) != 0) = false from rfl, cond_false]
  unfold sj117 Gj117
  refine (law_Power hN (le4 a b c d) _).trans ?_
  rw [show [a, b, c, d].length = 4 from rfl, h0, cond_false, he]
  rw [and_tr (fits_ok (by omega) (by omega)), Bool.not_true, cond_false]
  simp only [hk2, hk, Bool.true_and]
  refine (and_true_of (by rfl)).trans ?_
  refine (and_true_of (by rfl)).trans ?_
  refine (law_Times hN a1 a2 (by omega) (by omega) _).trans ?_
  generalize sclF ([a, b, c, d].getD 0 none) (1 - e) = ya
  refine (and_true_of (by rfl)).trans ?_
  refine (and_true_of (by rfl)).trans ?_
  refine (and_true_of (by rfl)).trans ?_
  refine (and_true_of (by rfl)).trans ?_
  refine (law_Times hN b1 b2 (by omega) (by omega) _).trans ?_
  refine (and_true_of (by rfl)).trans ?_
  refine (and_true_of (by rfl)).trans ?_
  refine (and_true_of (by rfl)).trans ?_
  refine (and_true_of (by rfl)).trans ?_
  refine (law_Times hN c1 c2 (by omega) (by omega) _).trans ?_
  refine (and_true_of (by rfl)).trans ?_
  refine (and_true_of (by rfl)).trans ?_
  refine (and_true_of (by rfl)).trans ?_
  refine (and_true_of (by rfl)).trans ?_
  refine (law_Times hN d1 d2 (by omega) (by omega) _).trans ?_
  kernel_rfl
theorem law_Unit {N : Nat} (hN : 1000 <= N) {a b c d : Fl} (ha : FW a) (hb : FW b) (hc : FW c) (hd : FW d) : Both4 (sj89 N a b c d) (sj129 N a b c d) := by
  cases hall : allFin [a, b, c, d] with
  | false =>
    refine both_err (n := 4) (fun κ => ?_) (fun κ => ?_)
    · unfold sj89 Gj89
      rw [law_good hN, hall]; rfl
    · unfold sj129 Gj129
      rw [law_Finite4 hN, hall]; rfl
  | true =>
    have hf := finW_of (FW4 ha hb hc hd) hall
    cases h0 : feq (mostF [a, b, c, d] 4) (some 0) with
    | true =>
      refine both_err (n := 120) (fun κ => ?_) (fun κ => ?_)
      · unfold sj89 Gj89
        rw [law_good hN, hall, Bool.not_true, cond_false]
        unfold sj60 Gj60
        simp only [s_m_Abs]
        have hm : fmm true (fmm true (fmm true (fmm true (some 0) (absF a)) (absF b)) (absF c)) (absF d) = mostF [a, b, c, d] 4 := rfl
        rw [hm, h0, cond_true]
      · unfold sj129 Gj129
        rw [law_Finite4 hN, hall]
        unfold sj64 Gj64
        rw [Bool.not_true, cond_false]
        dsimp only
        rw [show ((0 : Int) != 0) = false from rfl, cond_false]
        unfold sj117 Gj117
        refine (law_Power hN (le4 a b c d) _).trans ?_
        rw [show [a, b, c, d].length = 4 from rfl, h0]; rfl
    | false =>
      obtain ⟨fr, e, he, he1, he2, hfin, j, hj, hge⟩ := scl_facts (N := N) hf h0
      have q := unit_q hN hall hf h0 he he1 he2
      have r := unit_r hN hall hf h0 he he1 he2
      have na : NN (fmul (sclF a (1 - e)) (sclF a (1 - e))) := NN_sclF (hf 0 (Nat.le_of_ble_eq_true rfl)).1 _
      have nb : NN (fmul (sclF b (1 - e)) (sclF b (1 - e))) := NN_sclF (hf 1 (Nat.le_of_ble_eq_true rfl)).1 _
      have nc : NN (fmul (sclF c (1 - e)) (sclF c (1 - e))) := NN_sclF (hf 2 (Nat.le_of_ble_eq_true rfl)).1 _
      have nd : NN (fmul (sclF d (1 - e)) (sclF d (1 - e))) := NN_sclF (hf 3 (Nat.le_of_ble_eq_true rfl)).1 _
      simp only [zero_fadd_NN na] at q
      have hg : GE1 (fadd (fadd (fadd (fmul (sclF a (1 - e)) (sclF a (1 - e))) (fmul (sclF b (1 - e)) (sclF b (1 - e)))) (fmul (sclF c (1 - e)) (sclF c (1 - e)))) (fmul (sclF d (1 - e)) (sclF d (1 - e)))) := by
        match j, hj, hge with
        | 0, _, h => exact GE1_fadd (GE1_fadd (GE1_fadd h nb) nc) nd
        | 1, _, h => exact GE1_fadd (GE1_fadd (GE1_fadd' na h) nc) nd
        | 2, _, h => exact GE1_fadd (GE1_fadd' (NN_fadd na nb) h) nd
        | 3, _, h => exact GE1_fadd' (NN_fadd (NN_fadd na nb) nc) h
      have hv := Dv_fsqrt hg
      exact ⟨_, _, _, _, 0, ⟨Nn_fdiv (hfin 0 (Nat.le_of_ble_eq_true rfl)) hv, Nn_fdiv (hfin 1 (Nat.le_of_ble_eq_true rfl)) hv, Nn_fdiv (hfin 2 (Nat.le_of_ble_eq_true rfl)) hv, Nn_fdiv (hfin 3 (Nat.le_of_ble_eq_true rfl)) hv⟩, q, r⟩

theorem law_quats (N : Nat) {a b c d : Fl} (h : Nn a /\ Nn b /\ Nn c /\ Nn d) (n : Int) (k : Bool -> Bool) : sj52 N a b c d n a b c d n k = k true := by
  unfold sj52 Gj52
  rw [law_same N h.1, show (true == true) = true from rfl, cond_true, law_same N h.2.1, show (true == true) = true from rfl, cond_true, law_same N h.2.2.1, show (true == true) = true from rfl, cond_true, law_same N h.2.2.2, show (true == true) = true from rfl, cond_true, beq_self_eq_true]

end Go.Proofs.YtccocdgimamdhaaGreatDoor
end
