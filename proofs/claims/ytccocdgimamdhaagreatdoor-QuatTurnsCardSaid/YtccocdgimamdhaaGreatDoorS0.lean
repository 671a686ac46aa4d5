/-
  THE CHAPTER's FIRST EXAMPLES come out.
  Conditions: a loop's fuel is at least 1000.
-/
import Derived.Test.YtccocdgimamdhaaGreatDoorR1
section
namespace Go.Proofs.YtccocdgimamdhaaGreatDoor
open Go Go.Mach Ieee
set_option linter.unusedVariables false
set_option maxRecDepth 100000
theorem law_awake {N : Nat} (hN : 1000 <= N) (k : Bool -> Bool) : s_q51 N k = k true := by
  obtain ⟨M, rfl⟩ : ∃ M, N = M + 1000 := ⟨N - 1000, by omega⟩
  kernel_rfl
end Go.Proofs.YtccocdgimamdhaaGreatDoor
end
section
namespace Go.Proofs.YtccocdgimamdhaaGreatDoor
open Go Go.Mach Ieee
set_option linter.unusedVariables false

theorem small_of {N : Nat} (hN : 1000 <= N) {n : Nat} (h : n <= 48) : Small N n := ⟨by omega, by omega⟩
theorem le3 (a b c : Fl) : [a, b, c].length <= 48 := Nat.le_of_ble_eq_true rfl
theorem le4 (a b c d : Fl) : [a, b, c, d].length <= 48 := Nat.le_of_ble_eq_true rfl
theorem law_q13 {N : Nat} (xs : List Fl) (hl : Small N xs.length) (k : Bool -> Bool) : s_q13 N xs k = k (allFin xs) := by
  unfold s_q13 G_q13
  rw [<- cond_k (allFin xs) k]
  refine (iterG_all (fun i => (i : Int)) (fun i => finF (xs.getD i none)) xs.length hl.1 (fun i hi K => ?_) (fun K => ?_) : _)
  · have h2 := hl.2
    simp only [st_quat_finite_0, Int.toNat_natCast, fin_eq]
    rw [dec_true (by omega), cond_true, and_true_of (inR_of (by omega) (by omega)), and_true_of (inR_of (by omega) (by omega)), and_true_of (fits_ok (by omega) (by omega))]
    cases finF (xs.getD i none) <;> rfl
  · simp only [st_quat_finite_0]
    rw [dec_false (by omega), cond_false]
theorem law_Finite4 {N : Nat} (hN : 1000 <= N) (a b c d : Fl) (k : Bool -> Bool) : s_q87 N a b c d k = k (allFin [a, b, c, d]) :=
  law_AllFinite _ (small_of hN (Nat.le_of_ble_eq_true rfl)) _
theorem law_good {N : Nat} (hN : 1000 <= N) (a b c d : Fl) (k : Bool -> Bool) : s_q12 N a b c d k = k (allFin [a, b, c, d]) := by
  unfold s_q12 G_q12
  rw [law_q13 _ (small_of hN (Nat.le_of_ble_eq_true rfl))]
  cases allFin [a, b, c, d] <;> rfl
theorem FW3 {a b c : Fl} (ha : FW a) (hb : FW b) (hc : FW c) : ∀ i, i < [a, b, c].length -> FW ([a, b, c].getD i none) := by
  intro i hi
  match i, hi with
  | 0, _ => exact ha
  | 1, _ => exact hb
  | 2, _ => exact hc
theorem FW4 {a b c d : Fl} (ha : FW a) (hb : FW b) (hc : FW c) (hd : FW d) : ∀ i, i < [a, b, c, d].length -> FW ([a, b, c, d].getD i none) := by
  intro i hi
  match i, hi with
  | 0, _ => exact ha
  | 1, _ => exact hb
  | 2, _ => exact hc
  | 3, _ => exact hd

theorem finF_iff (b : Nat) : finF (some b) = decide (b % 9223372036854775808 < 9218868437227405312) := by
  unfold finF Format.read
  simp only [signWeight_d, binade_d, infRung_d]
  by_cases h1 : b % 9223372036854775808 < 4503599627370496
  · rw [if_pos h1, decide_eq_true (by omega)]; rfl
  · rw [if_neg h1]
    by_cases h2 : b % 9223372036854775808 < 9218868437227405312
    · rw [if_pos h2, decide_eq_true h2]; rfl
    · rw [if_neg h2, decide_eq_false h2]
      split <;> rfl
def Nn (x : Fl) : Prop := ∃ b, x = some b /\ isNaN b = false
theorem Nn_fin {x : Fl} (h : finF x = true) : Nn x := by
  cases x with
  | none => cases h
  | some b =>
    rw [finF_iff] at h
    have := of_decide_eq_true h
    refine ⟨b, rfl, ?_⟩
    rw [Bool.eq_false_iff]
    intro hc
    have := (isNaN_iff b).1 hc
    omega
theorem Nn_zero : Nn (some 0) := ⟨0, rfl, by decide⟩
theorem Nn_word (s : Bool) {r : Nat} (h : r <= 9218868437227405312) : Nn (some (Ieee.double.word s r)) := by
  refine ⟨_, rfl, ?_⟩
  rw [Bool.eq_false_iff]
  intro hc
  have h1 := (isNaN_iff _).1 hc
  have hw : Ieee.double.word s r % 9223372036854775808 = r := by
    unfold Format.word; rw [signWeight_d]; cases s <;> simp <;> omega
  omega
theorem Nn_nearest (s : Bool) (m : Nat) (i : Int) : Nn (some (Ieee.double.nearest s m i)) := by
  obtain ⟨r, h, hr⟩ := nearest_le s m i
  rw [h]; exact Nn_word s hr
theorem Nn_fdiv {x y : Fl} (hx : finF x = true) (hy : Dv y) : Nn (fdiv x y) := by
  obtain ⟨a, s, m, i, rfl, ha⟩ := finF_num hx
  obtain ⟨b, rfl, hb⟩ := hy
  show Nn (((Ieee.double.read a).quotient (Ieee.double.fractionBits + 2) (Ieee.double.read b)).map Ieee.double.write)
  rw [ha]
  rcases hb with hb | ⟨n, j, hb, hn⟩
  · rw [hb]; exact Nn_nearest _ _ _
  · rw [hb]; simp only [Datum.quotient, if_neg hn]; exact Nn_nearest _ _ _
theorem law_same (N : Nat) {a : Fl} (h : Nn a) (k : Bool -> Bool) : s_q34 N a a k = k true := by
  obtain ⟨b, rfl, hb⟩ := h
  unfold s_q34 G_q34
  show s_q146 N (some b) _ = _
  rw [law_Bits]
  have : bitsF (some b) = b := by simp only [bitsF, cnb, hb]; rfl
  rw [this]
  show k (((b : Nat) : Int) == ((b : Nat) : Int)) = _
  rw [beq_self_eq_true]

abbrev K4 : Type := Fl -> Fl -> Fl -> Fl -> Int -> Bool
def Both4 (f g : K4 -> Bool) : Prop := ∃ a b c d n, (Nn a /\ Nn b /\ Nn c /\ Nn d) /\ (∀ κ, f κ = κ a b c d n) /\ (∀ κ, g κ = κ a b c d n)
theorem both_err {f g : K4 -> Bool} {n : Int} (hf : ∀ κ, f κ = κ (some 0) (some 0) (some 0) (some 0) n) (hg : ∀ κ, g κ = κ (some 0) (some 0) (some 0) (some 0) n) : Both4 f g :=
  ⟨_, _, _, _, n, ⟨Nn_zero, Nn_zero, Nn_zero, Nn_zero⟩, hf, hg⟩

theorem unit_q {N : Nat} (hN : 1000 <= N) {a b c d : Fl} (hall : allFin [a, b, c, d] = true) (hf : FinW [a, b, c, d]) {fr : Fl} {e : Int} (h0 : feq (mostF [a, b, c, d] 4) (some 0) = false)
    (he : ∀ κ : Fl -> Int -> Bool, s_q100 N (mostF [a, b, c, d] 4) κ = κ fr e) (he1 : -1200 <= e) (he2 : e <= 1200) (κ : K4) :
    s_q63 N a b c d κ = (fun g => κ (fdiv (sclF a (1 - e)) g) (fdiv (sclF b (1 - e)) g) (fdiv (sclF c (1 - e)) g) (fdiv (sclF d (1 - e)) g) 0) (fsqrt (fadd (fadd (fadd (fadd (some 0) (fmul (sclF a (1 - e)) (sclF a (1 - e)))) (fmul (sclF b (1 - e)) (sclF b (1 - e)))) (fmul (sclF c (1 - e)) (sclF c (1 - e)))) (fmul (sclF d (1 - e)) (sclF d (1 - e))))) := by
  obtain ⟨a1, a2⟩ := hf 0 (Nat.le_of_ble_eq_true rfl)
  obtain ⟨b1, b2⟩ := hf 1 (Nat.le_of_ble_eq_true rfl)
  obtain ⟨c1, c2⟩ := hf 2 (Nat.le_of_ble_eq_true rfl)
  obtain ⟨d1, d2⟩ := hf 3 (Nat.le_of_ble_eq_true rfl)
  have hk : fits .i64 (1 - e) = true := fits_ok (by omega) (by omega)
  unfold s_q63 G_q63
  rw [law_good hN, hall, Bool.not_true, cond_false]
  unfold s_q30 G_q30
  simp only [s_m_Abs]
  have hm : fmm true (fmm true (fmm true (fmm true (some 0) (absF a)) (absF b)) (absF c)) (absF d) = mostF [a, b, c, d] 4 := rfl
  rw [hm, h0, cond_false, he, hk, Bool.true_and]
  refine (law_Ldexp N a1 a2 (by omega) (by omega) _).trans ?_
  rw [Bool.true_and]
  refine (law_Ldexp N b1 b2 (by omega) (by omega) _).trans ?_
  rw [Bool.true_and]
  refine (law_Ldexp N c1 c2 (by omega) (by omega) _).trans ?_
  rw [Bool.true_and]
  refine (law_Ldexp N d1 d2 (by omega) (by omega) _).trans ?_
  rfl
theorem unit_r {N : Nat} (hN : 1000 <= N) {a b c d : Fl} (hall : allFin [a, b, c, d] = true) (hf : FinW [a, b, c, d]) {fr : Fl} {e : Int} (h0 : feq (mostF [a, b, c, d] 4) (some 0) = false)
    (he : ∀ κ : Fl -> Int -> Bool, s_q100 N (mostF [a, b, c, d] 4) κ = κ fr e) (he1 : -1200 <= e) (he2 : e <= 1200) (κ : K4) :
    s_q107 N a b c d κ = (fun g => κ (fdiv (sclF a (1 - e)) g) (fdiv (sclF b (1 - e)) g) (fdiv (sclF c (1 - e)) g) (fdiv (sclF d (1 - e)) g) 0) (fsqrt (fadd (fadd (fadd (fmul (sclF a (1 - e)) (sclF a (1 - e))) (fmul (sclF b (1 - e)) (sclF b (1 - e)))) (fmul (sclF c (1 - e)) (sclF c (1 - e)))) (fmul (sclF d (1 - e)) (sclF d (1 - e))))) := by
  obtain ⟨a1, a2⟩ := hf 0 (Nat.le_of_ble_eq_true rfl)
  obtain ⟨b1, b2⟩ := hf 1 (Nat.le_of_ble_eq_true rfl)
  obtain ⟨c1, c2⟩ := hf 2 (Nat.le_of_ble_eq_true rfl)
  obtain ⟨d1, d2⟩ := hf 3 (Nat.le_of_ble_eq_true rfl)
  have hk : fits .i64 (1 - e) = true := fits_ok (by omega) (by omega)
  have hk2 : 0 - (e - 1) = 1 - e := by omega
  unfold s_q107 G_q107
  rw [law_Finite4 hN, hall]
  unfold s_q36 G_q36
  rw [Bool.not_true, cond_false]
  dsimp only
  rw [show ((0 : Int) != 0) = false from rfl, cond_false]
  unfold s_q143 G_q143
  refine (law_Power hN (le4 a b c d) _).trans ?_
  rw [show [a, b, c, d].length = 4 from rfl, h0, cond_false, he]
  rw [and_tr (fits_ok (by omega) (by omega)), Bool.not_true, cond_false]
  simp only [hk2, hk, Bool.true_and]
  refine (and_true_of (by rfl)).trans ?_
  refine (and_true_of (by rfl)).trans ?_
  refine (law_Times hN a1 a2 (by omega) (by omega) _).trans ?_
  generalize sclF ([a, b, c, d].getD 0 none) (1 - e) = ya
  refine (and_true_of (by rfl)).trans ?_
  refine (and_true_of (by rfl)).trans ?_
  refine (and_true_of (by rfl)).trans ?_
  refine (and_true_of (by rfl)).trans ?_
  refine (law_Times hN b1 b2 (by omega) (by omega) _).trans ?_
  refine (and_true_of (by rfl)).trans ?_
  refine (and_true_of (by rfl)).trans ?_
  refine (and_true_of (by rfl)).trans ?_
  refine (and_true_of (by rfl)).trans ?_
  refine (law_Times hN c1 c2 (by omega) (by omega) _).trans ?_
  refine (and_true_of (by rfl)).trans ?_
  refine (and_true_of (by rfl)).trans ?_
  refine (and_true_of (by rfl)).trans ?_
  refine (and_true_of (by rfl)).trans ?_
  refine (law_Times hN d1 d2 (by omega) (by omega) _).trans ?_
  kernel_rfl
theorem law_Unit {N : Nat} (hN : 1000 <= N) {a b c d : Fl} (ha : FW a) (hb : FW b) (hc : FW c) (hd : FW d) : Both4 (s_q63 N a b c d) (s_q107 N a b c d) := by
  cases hall : allFin [a, b, c, d] with
  | false =>
    refine both_err (n := 4) (fun κ => ?_) (fun κ => ?_)
    · unfold s_q63 G_q63
      rw [law_good hN, hall]; rfl
    · unfold s_q107 G_q107
      rw [law_Finite4 hN, hall]; rfl
  | true =>
    have hf := finW_of (FW4 ha hb hc hd) hall
    cases h0 : feq (mostF [a, b, c, d] 4) (some 0) with
    | true =>
      refine both_err (n := 120) (fun κ => ?_) (fun κ => ?_)
      · unfold s_q63 G_q63
        rw [law_good hN, hall, Bool.not_true, cond_false]
        unfold s_q30 G_q30
        simp only [s_m_Abs]
        have hm : fmm true (fmm true (fmm true (fmm true (some 0) (absF a)) (absF b)) (absF c)) (absF d) = mostF [a, b, c, d] 4 := rfl
        rw [hm, h0, cond_true]
      · unfold s_q107 G_q107
        rw [law_Finite4 hN, hall]
        unfold s_q36 G_q36
        rw [Bool.not_true, cond_false]
        dsimp only
        rw [show ((0 : Int) != 0) = false from rfl, cond_false]
        unfold s_q143 G_q143
        refine (law_Power hN (le4 a b c d) _).trans ?_
        rw [show [a, b, c, d].length = 4 from rfl, h0]; rfl
    | false =>
      obtain ⟨fr, e, he, he1, he2, hfin, j, hj, hge⟩ := scl_facts (N := N) hf h0
      have q := unit_q hN hall hf h0 he he1 he2
      have r := unit_r hN hall hf h0 he he1 he2
      have na : NN (fmul (sclF a (1 - e)) (sclF a (1 - e))) := NN_sclF (hf 0 (Nat.le_of_ble_eq_true rfl)).1 _
      have nb : NN (fmul (sclF b (1 - e)) (sclF b (1 - e))) := NN_sclF (hf 1 (Nat.le_of_ble_eq_true rfl)).1 _
      have nc : NN (fmul (sclF c (1 - e)) (sclF c (1 - e))) := NN_sclF (hf 2 (Nat.le_of_ble_eq_true rfl)).1 _
      have nd : NN (fmul (sclF d (1 - e)) (sclF d (1 - e))) := NN_sclF (hf 3 (Nat.le_of_ble_eq_true rfl)).1 _
      simp only [zero_fadd_NN na] at q
      have hg : GE1 (fadd (fadd (fadd (fmul (sclF a (1 - e)) (sclF a (1 - e))) (fmul (sclF b (1 - e)) (sclF b (1 - e)))) (fmul (sclF c (1 - e)) (sclF c (1 - e)))) (fmul (sclF d (1 - e)) (sclF d (1 - e)))) := by
        match j, hj, hge with
        | 0, _, h => exact GE1_fadd (GE1_fadd (GE1_fadd h nb) nc) nd
        | 1, _, h => exact GE1_fadd (GE1_fadd (GE1_fadd' na h) nc) nd
        | 2, _, h => exact GE1_fadd (GE1_fadd' (NN_fadd na nb) h) nd
        | 3, _, h => exact GE1_fadd' (NN_fadd (NN_fadd na nb) nc) h
      have hv := Dv_fsqrt hg
      exact ⟨_, _, _, _, 0, ⟨Nn_fdiv (hfin 0 (Nat.le_of_ble_eq_true rfl)) hv, Nn_fdiv (hfin 1 (Nat.le_of_ble_eq_true rfl)) hv, Nn_fdiv (hfin 2 (Nat.le_of_ble_eq_true rfl)) hv, Nn_fdiv (hfin 3 (Nat.le_of_ble_eq_true rfl)) hv⟩, q, r⟩

theorem law_quats (N : Nat) {a b c d : Fl} (h : Nn a /\ Nn b /\ Nn c /\ Nn d) (n : Int) (k : Bool -> Bool) : s_q47 N a b c d n a b c d n k = k true := by
  unfold s_q47 G_q47
  rw [law_same N h.1, show (true == true) = true from rfl, cond_true, law_same N h.2.1, show (true == true) = true from rfl, cond_true, law_same N h.2.2.1, show (true == true) = true from rfl, cond_true, law_same N h.2.2.2, show (true == true) = true from rfl, cond_true, beq_self_eq_true]

end Go.Proofs.YtccocdgimamdhaaGreatDoor
end
section
namespace Go.Proofs.YtccocdgimamdhaaGreatDoor
open Go Go.Mach Ieee
set_option linter.unusedVariables false
set_option maxRecDepth 4000

theorem law_FiniteVec {N : Nat} (hN : 1000 <= N) (a b c : Fl) (k : Bool -> Bool) : s_q14 N a b c k = k (allFin [a, b, c]) :=
  law_AllFinite _ (small_of hN (Nat.le_of_ble_eq_true rfl)) _
theorem fin3 {a b c : Fl} (h : allFin [a, b, c] = true) : finF a = true /\ finF b = true /\ finF c = true := by
  have h := allN_iff.1 h
  exact ⟨h 0 (Nat.le_of_ble_eq_true rfl), h 1 (Nat.le_of_ble_eq_true rfl), h 2 (Nat.le_of_ble_eq_true rfl)⟩
theorem allFin3 {a b c : Fl} : allFin [a, b, c] = (finF a && (finF b && finF c)) := by
  rw [Bool.eq_iff_iff]
  constructor
  · intro h
    obtain ⟨h0, h1, h2⟩ := fin3 h
    rw [h0, h1, h2]; rfl
  · intro h
    simp only [Bool.and_eq_true] at h
    refine allN_iff.2 fun i hi => ?_
    have hi : i < 3 := hi
    match i, hi with
    | 0, _ => exact h.1
    | 1, _ => exact h.2.1
    | 2, _ => exact h.2.2
abbrev K3 : Type := Fl -> Fl -> Fl -> Int -> Bool
def Both3 (f g : K3 -> Bool) : Prop := ∃ x y z n, (Nn x /\ Nn y /\ Nn z) /\ (∀ κ, f κ = κ x y z n) /\ (∀ κ, g κ = κ x y z n)
theorem both3_err {f g : K3 -> Bool} {n : Int} (hf : ∀ κ, f κ = κ (some 0) (some 0) (some 0) n) (hg : ∀ κ, g κ = κ (some 0) (some 0) (some 0) n) : Both3 f g :=
  ⟨_, _, _, n, ⟨Nn_zero, Nn_zero, Nn_zero⟩, hf, hg⟩
theorem law_vecs (N : Nat) {a b c : Fl} (h : Nn a /\ Nn b /\ Nn c) (n : Int) (k : Bool -> Bool) : s_q54 N a b c n a b c n k = k true := by
  unfold s_q54 G_q54
  rw [law_same N h.1, show (true == true) = true from rfl, cond_true, law_same N h.2.1, show (true == true) = true from rfl, cond_true, law_same N h.2.2, show (true == true) = true from rfl, cond_true, beq_self_eq_true]
def toldV (x y z : Fl) (κ : K3) : Bool := cond (!allFin [x, y, z]) (κ (some 0) (some 0) (some 0) 5) (κ x y z 0)
theorem law_vec {N : Nat} (hN : 1000 <= N) (x y z : Fl) (κ : K3) : s_q121 N x y z κ = toldV x y z κ := by
  unfold s_q121 G_q121
  rw [law_q13 _ (small_of hN (Nat.le_of_ble_eq_true rfl))]
  rfl
theorem law_overVec {N : Nat} (hN : 1000 <= N) (x y z : Fl) (κ : K3) : s_q71 N x y z κ = toldV x y z κ := by
  unfold s_q71 G_q71
  rw [law_FiniteVec hN]
  rfl
theorem both_toldV {f g : K3 -> Bool} (x y z : Fl) (hf : ∀ κ, f κ = toldV x y z κ) (hg : ∀ κ, g κ = toldV x y z κ) : Both3 f g := by
  unfold toldV at hf hg
  cases h : allFin [x, y, z] with
  | false => exact both3_err (n := 5) (fun κ => by rw [hf, h]; rfl) (fun κ => by rw [hg, h]; rfl)
  | true =>
    obtain ⟨f0, f1, f2⟩ := fin3 h
    exact ⟨x, y, z, 0, ⟨Nn_fin f0, Nn_fin f1, Nn_fin f2⟩, fun κ => by rw [hf, h]; rfl, fun κ => by rw [hg, h]; rfl⟩
def crs (a b c p q r : Fl) (k : Fl -> Fl -> Fl -> Bool) : Bool := k (fsub (fmul b r) (fmul c q)) (fsub (fmul c p) (fmul a r)) (fsub (fmul a q) (fmul b p))
theorem law_cross (N : Nat) (a b c p q r : Fl) (k : Fl -> Fl -> Fl -> Bool) : s_q49 N a b c p q r k = crs a b c p q r k := rfl
theorem law_ref_cross (N : Nat) (a b c p q r : Fl) (k : Fl -> Fl -> Fl -> Bool) : s_q66 N a b c p q r k = crs a b c p q r k := rfl
theorem law_Cross {N : Nat} (hN : 1000 <= N) (a b c p q r : Fl) : Both3 (s_q132 N a b c p q r) (s_q141 N a b c p q r) := by
  have e1 : ∀ κ, s_q132 N a b c p q r κ = cond (allFin [a, b, c]) (cond (allFin [p, q, r]) (crs a b c p q r fun x y z => toldV x y z κ) (κ (some 0) (some 0) (some 0) 4)) (κ (some 0) (some 0) (some 0) 4) := by
    intro κ
    unfold s_q132 G_q132
    rw [law_q13 _ (small_of hN (Nat.le_of_ble_eq_true rfl))]
    cases allFin [a, b, c]
    · rfl
    · rw [show ((!true) == false) = true from rfl, cond_true, cond_true, law_q13 _ (small_of hN (Nat.le_of_ble_eq_true rfl))]
      cases allFin [p, q, r]
      · rfl
      · rw [Bool.not_true, cond_false, cond_true, law_cross]
        unfold crs
        dsimp only
        rw [law_vec hN]
  have e2 : ∀ κ, s_q141 N a b c p q r κ = cond (allFin [a, b, c]) (cond (allFin [p, q, r]) (crs a b c p q r fun x y z => toldV x y z κ) (κ (some 0) (some 0) (some 0) 4)) (κ (some 0) (some 0) (some 0) 4) := by
    intro κ
    unfold s_q141 G_q141
    rw [law_FiniteVec hN, law_FiniteVec hN]
    unfold s_q23 G_q23
    cases allFin [a, b, c] <;> cases allFin [p, q, r]
    · rfl
    · rfl
    · rfl
    · rw [Bool.not_true, cond_false, cond_false]
      dsimp only
      rw [show ((0 : Int) != 0) = false from rfl, cond_false, law_ref_cross]
      unfold crs
      dsimp only
      rw [law_overVec hN]
      rfl
  cases h1 : allFin [a, b, c] with
  | false => exact both3_err (n := 4) (fun κ => by rw [e1, h1]; rfl) (fun κ => by rw [e2, h1]; rfl)
  | true =>
    cases h2 : allFin [p, q, r] with
    | false => exact both3_err (n := 4) (fun κ => by rw [e1, h1, h2]; rfl) (fun κ => by rw [e2, h1, h2]; rfl)
    | true => exact both_toldV (fsub (fmul b r) (fmul c q)) (fsub (fmul c p) (fmul a r)) (fsub (fmul a q) (fmul b p)) (fun κ => by rw [e1, h1, h2]; rfl) (fun κ => by rw [e2, h1, h2]; rfl)
theorem law_Turn {N : Nat} (hN : 1000 <= N) (w a b c p q r : Fl) : Both3 (s_q115 N w a b c p q r) (s_q157 N w a b c p q r) := by
  have two : (some 4611686018427387904 : Fl) = some 4611686018427387904 := rfl
  have e1 : ∀ κ, s_q115 N w a b c p q r κ = cond (allFin [w, a, b, c]) (cond (allFin [p, q, r]) (crs a b c p q r fun x y z => crs a b c (fmul x (some 4611686018427387904)) (fmul y (some 4611686018427387904)) (fmul z (some 4611686018427387904)) fun u v t => toldV (fadd (fadd p (fmul w (fmul x (some 4611686018427387904)))) u) (fadd (fadd q (fmul w (fmul y (some 4611686018427387904)))) v) (fadd (fadd r (fmul w (fmul z (some 4611686018427387904)))) t) κ) (κ (some 0) (some 0) (some 0) 4)) (κ (some 0) (some 0) (some 0) 4) := by
    intro κ
    unfold s_q115 G_q115
    rw [law_good hN]
    cases allFin [w, a, b, c]
    · rfl
    · rw [show ((!true) == false) = true from rfl, cond_true, cond_true, law_q13 _ (small_of hN (Nat.le_of_ble_eq_true rfl))]
      cases allFin [p, q, r]
      · rfl
      · rw [Bool.not_true, cond_false, cond_true]
        simp only [law_cross, law_vec hN]
  have e2 : ∀ κ, s_q157 N w a b c p q r κ = cond (allFin [w, a, b, c]) (cond (allFin [p, q, r]) (crs a b c p q r fun x y z => crs a b c (fmul x (some 4611686018427387904)) (fmul y (some 4611686018427387904)) (fmul z (some 4611686018427387904)) fun u v t => toldV (fadd (fadd p (fmul w (fmul x (some 4611686018427387904)))) u) (fadd (fadd q (fmul w (fmul y (some 4611686018427387904)))) v) (fadd (fadd r (fmul w (fmul z (some 4611686018427387904)))) t) κ) (κ (some 0) (some 0) (some 0) 4)) (κ (some 0) (some 0) (some 0) 4) := by
    intro κ
    unfold s_q157 G_q157
    rw [law_Finite4 hN, law_FiniteVec hN]
    unfold s_q23 G_q23
    cases allFin [w, a, b, c] <;> cases allFin [p, q, r]
    · rfl
    · rfl
    · rfl
    · rw [Bool.not_true, cond_false, cond_false]
      dsimp only
      rw [show ((0 : Int) != 0) = false from rfl, cond_false, cond_true, cond_true]
      simp only [law_ref_cross, law_overVec hN]
  unfold crs at e1 e2
  dsimp only at e1 e2
  cases h1 : allFin [w, a, b, c] with
  | false => exact both3_err (n := 4) (fun κ => by rw [e1, h1]; rfl) (fun κ => by rw [e2, h1]; rfl)
  | true =>
    cases h2 : allFin [p, q, r] with
    | false => exact both3_err (n := 4) (fun κ => by rw [e1, h1, h2]; rfl) (fun κ => by rw [e2, h1, h2]; rfl)
    | true => exact both_toldV _ _ _ (fun κ => by rw [e1, h1, h2, cond_true, cond_true]) (fun κ => by rw [e2, h1, h2, cond_true, cond_true])
theorem fin_fdiv {x y : Fl} (hx : finF x = false) (hy : finF y = true) : finF (fdiv x y) = false := by
  obtain ⟨b, s, m, i, rfl, hb⟩ := finF_num hy
  cases x with
  | none => rfl
  | some a =>
    show finF (((Ieee.double.read a).quotient (Ieee.double.fractionBits + 2) (Ieee.double.read b)).map Ieee.double.write) = false
    cases ha : Ieee.double.read a with
    | number t n j => rw [finF_of ha] at hx; cases hx
    | nan t f => rw [hb]; rfl
    | infinity t =>
      rw [hb]
      show finF (some (Ieee.double.write (.infinity (t ^^ s)))) = false
      have : Ieee.double.write (.infinity (t ^^ s)) = Ieee.double.word (t ^^ s) 9218868437227405312 := by rw [<- infRung_d]; rfl
      rw [this, finF_iff]
      cases (t ^^ s) <;> decide
theorem law_Gibbs {N : Nat} (hN : 1000 <= N) (w a b c : Fl) : Both3 (s_q133 N w a b c) (s_q142 N w a b c) := by
  have e1 : ∀ κ, s_q133 N w a b c κ = cond (allFin [w, a, b, c]) (cond (feq w (some 0)) (κ (some 0) (some 0) (some 0) 120) (cond (allFin [fmul a (some 4611686018427387904), fmul b (some 4611686018427387904), fmul c (some 4611686018427387904)]) (toldV (fdiv (fmul a (some 4611686018427387904)) w) (fdiv (fmul b (some 4611686018427387904)) w) (fdiv (fmul c (some 4611686018427387904)) w) κ) (κ (some 0) (some 0) (some 0) 5))) (κ (some 0) (some 0) (some 0) 4) := by
    intro κ
    unfold s_q133 G_q133
    rw [law_good hN]
    cases allFin [w, a, b, c]
    · rfl
    · rw [Bool.not_true, cond_false, cond_true]
      cases feq w (some 0)
      · rw [cond_false, cond_false, law_q13 _ (small_of hN (Nat.le_of_ble_eq_true rfl))]
        cases allFin [fmul a (some 4611686018427387904), fmul b (some 4611686018427387904), fmul c (some 4611686018427387904)]
        · rfl
        · rw [Bool.not_true, cond_false, cond_true, law_vec hN]
      · rfl
  have e2 : ∀ κ, s_q142 N w a b c κ = cond (allFin [w, a, b, c]) (cond (feq w (some 0)) (κ (some 0) (some 0) (some 0) 120) (toldV (fdiv (fmul a (some 4611686018427387904)) w) (fdiv (fmul b (some 4611686018427387904)) w) (fdiv (fmul c (some 4611686018427387904)) w) κ)) (κ (some 0) (some 0) (some 0) 4) := by
    intro κ
    unfold s_q142 G_q142
    rw [law_Finite4 hN]
    unfold s_q36 G_q36
    cases allFin [w, a, b, c]
    · rfl
    · rw [Bool.not_true, cond_false]
      dsimp only
      rw [show ((0 : Int) != 0) = false from rfl, cond_false, cond_true, law_overVec hN]
  cases h1 : allFin [w, a, b, c] with
  | false => exact both3_err (n := 4) (fun κ => by rw [e1, h1]; rfl) (fun κ => by rw [e2, h1]; rfl)
  | true =>
    cases h2 : feq w (some 0) with
    | true => exact both3_err (n := 120) (fun κ => by rw [e1, h1, h2]; rfl) (fun κ => by rw [e2, h1, h2]; rfl)
    | false =>
      cases h3 : allFin [fmul a (some 4611686018427387904), fmul b (some 4611686018427387904), fmul c (some 4611686018427387904)] with
      | true => exact both_toldV _ _ _ (fun κ => by rw [e1, h1, h2, h3]; rfl) (fun κ => by rw [e2, h1, h2]; rfl)
      | false =>
        have hw : finF w = true := (allN_iff.1 h1) 0 (Nat.le_of_ble_eq_true rfl)
        have h4 : allFin [fdiv (fmul a (some 4611686018427387904)) w, fdiv (fmul b (some 4611686018427387904)) w, fdiv (fmul c (some 4611686018427387904)) w] = false := by
          rw [allFin3] at h3 ⊢
          cases g0 : finF (fmul a (some 4611686018427387904)) with
          | false => rw [fin_fdiv g0 hw]; rfl
          | true =>
            cases g1 : finF (fmul b (some 4611686018427387904)) with
            | false => rw [fin_fdiv g1 hw, Bool.false_and, Bool.and_false]
            | true =>
              cases g2 : finF (fmul c (some 4611686018427387904)) with
              | false => rw [fin_fdiv g2 hw, Bool.and_false, Bool.and_false]
              | true => rw [g0, g1, g2] at h3; cases h3
        refine both3_err (n := 5) (fun κ => by rw [e1, h1, h2, h3]; rfl) (fun κ => ?_)
        rw [e2, h1, h2]
        unfold toldV
        rw [h4]; rfl
theorem law_Cayley {N : Nat} (hN : 1000 <= N) (a b c : Fl) : Both4 (s_q114 N a b c) (s_q134 N a b c) := by
  have f1 : FW (some 4607182418800017408) := fun b h => by cases h; decide
  have ft : finF (some 4611686018427387904) = true := by decide
  obtain ⟨x, y, z, w, n, hs, f, g⟩ := law_Unit hN f1 (FW_fdiv a (some 4611686018427387904)) (FW_fdiv b (some 4611686018427387904)) (FW_fdiv c (some 4611686018427387904))
  have e1 : ∀ κ, s_q114 N a b c κ = κ x y z w n := by
    intro κ
    unfold s_q114 G_q114
    rw [f]
  have e2 : ∀ κ, s_q134 N a b c κ = cond (allFin [a, b, c]) (κ x y z w n) (κ (some 0) (some 0) (some 0) (some 0) 4) := by
    intro κ
    unfold s_q134 G_q134
    rw [law_FiniteVec hN]
    unfold s_q36 G_q36
    cases allFin [a, b, c]
    · rfl
    · rw [Bool.not_true, cond_false]
      dsimp only
      rw [show ((0 : Int) != 0) = false from rfl, cond_false, g, cond_true]
  cases h : allFin [a, b, c] with
  | true => exact ⟨x, y, z, w, n, hs, e1, fun κ => by rw [e2, h]; rfl⟩
  | false =>
    refine both_err (n := 4) (fun κ => ?_) (fun κ => by rw [e2, h]; rfl)
    have h4 : allFin [some 4607182418800017408, fdiv a (some 4611686018427387904), fdiv b (some 4611686018427387904), fdiv c (some 4611686018427387904)] = false := by
      rw [Bool.eq_false_iff]
      intro hc
      have hc := allN_iff.1 hc
      have c1 : finF (fdiv a (some 4611686018427387904)) = true := hc 1 (Nat.le_of_ble_eq_true rfl)
      have c2 : finF (fdiv b (some 4611686018427387904)) = true := hc 2 (Nat.le_of_ble_eq_true rfl)
      have c3 : finF (fdiv c (some 4611686018427387904)) = true := hc 3 (Nat.le_of_ble_eq_true rfl)
      have d1 : finF a = true := by
        cases g0 : finF a with
        | true => rfl
        | false => rw [fin_fdiv g0 ft] at c1; cases c1
      have d2 : finF b = true := by
        cases g0 : finF b with
        | true => rfl
        | false => rw [fin_fdiv g0 ft] at c2; cases c2
      have d3 : finF c = true := by
        cases g0 : finF c with
        | true => rfl
        | false => rw [fin_fdiv g0 ft] at c3; cases c3
      rw [allFin3, d1, d2, d3] at h
      cases h
    unfold s_q114 G_q114 s_q63 G_q63
    rw [law_good hN, h4]
    rfl

theorem flt_self (x : Fl) : flt x x = false := by
  cases x with
  | none => rfl
  | some b =>
    show (Ieee.double.order b b == some .lt) = false
    cases h : isNaN b with
    | true =>
      have := order_nan_left b h
      rw [show Ieee.double.order b b = none from this]; rfl
    | false =>
      have := order_self (Ieee.double.read b) h
      show ((Ieee.double.read b).order (Ieee.double.read b) == some .lt) = false
      rw [this]; rfl
def dot3 (a b c p q r : Fl) : Fl := fadd (fadd (fmul a p) (fmul b q)) (fmul c r)
def axisK (a b c : Fl) (k : Fl -> Fl -> Fl -> Bool) : Bool :=
  cond (flt (absF b) (absF a)) (cond (flt (absF c) (absF b)) (k (some 0) (some 0) (some 4607182418800017408)) (k (some 0) (some 4607182418800017408) (some 0))) (cond (flt (absF c) (absF a)) (k (some 0) (some 0) (some 4607182418800017408)) (k (some 4607182418800017408) (some 0) (some 0)))
def zero4 (a b c d : Fl) : Bool := feq a (some 0) && (feq b (some 0) && (feq c (some 0) && feq d (some 0)))
def betw (U : Fl -> Fl -> Fl -> Fl -> Bool) (a b c p q r : Fl) : Bool :=
  crs a b c p q r fun x y z => cond (zero4 (fadd (some 4607182418800017408) (dot3 a b c p q r)) x y z) (axisK a b c fun u v w => crs a b c u v w fun x y z => U (some 0) x y z) (U (fadd (some 4607182418800017408) (dot3 a b c p q r)) x y z)
theorem betw_both {N : Nat} (hN : 1000 <= N) (a b c p q r : Fl) : ∃ x y z w, (FW x /\ FW y /\ FW z /\ FW w) /\ ∀ U : Fl -> Fl -> Fl -> Fl -> Bool, betw U a b c p q r = U x y z w := by
  unfold betw crs axisK
  dsimp only
  cases zero4 (fadd (some 4607182418800017408) (dot3 a b c p q r)) (fsub (fmul b r) (fmul c q)) (fsub (fmul c p) (fmul a r)) (fsub (fmul a q) (fmul b p))
  · exact ⟨_, _, _, _, ⟨FW_fadd _ _, FW_fsub _ _, FW_fsub _ _, FW_fsub _ _⟩, fun U => rfl⟩
  · cases flt (absF b) (absF a)
    · cases flt (absF c) (absF a)
      · exact ⟨_, _, _, _, ⟨FW_zero, FW_fsub _ _, FW_fsub _ _, FW_fsub _ _⟩, fun U => rfl⟩
      · exact ⟨_, _, _, _, ⟨FW_zero, FW_fsub _ _, FW_fsub _ _, FW_fsub _ _⟩, fun U => rfl⟩
    · cases flt (absF c) (absF b)
      · exact ⟨_, _, _, _, ⟨FW_zero, FW_fsub _ _, FW_fsub _ _, FW_fsub _ _⟩, fun U => rfl⟩
      · exact ⟨_, _, _, _, ⟨FW_zero, FW_fsub _ _, FW_fsub _ _, FW_fsub _ _⟩, fun U => rfl⟩
abbrev K5 : Type := Fl -> Fl -> Fl -> Fl -> Fl -> Int -> Bool
theorem law_Between {N : Nat} (hN : 1000 <= N) {a b c p q r : Fl} (ha : FW a) (hb : FW b) (hc : FW c) (hp : FW p) (hq : FW q) (hr : FW r) :
    ∃ x y z w n dt, (Nn x /\ Nn y /\ Nn z /\ Nn w) /\ (∀ κ : K4, s_q91 N a b c p q r κ = κ x y z w n) /\ (∀ κ : K5, s_q105 N a b c p q r κ = κ x y z w dt n) := by
  obtain ⟨g, m, ⟨-, hm⟩, gf, gg⟩ := law_LengthE hN (xs := [a, b, c]) (le3 a b c) (FW3 ha hb hc)
  obtain ⟨h, o, ⟨-, ho⟩, of, og⟩ := law_LengthE hN (xs := [p, q, r]) (le3 p q r) (FW3 hp hq hr)
  obtain ⟨x, y, z, w, ⟨w0, w1, w2, w3⟩, hB⟩ := betw_both hN (fdiv a g) (fdiv b g) (fdiv c g) (fdiv p h) (fdiv q h) (fdiv r h)
  obtain ⟨x', y', z', w', n, hs, uf, ug⟩ := law_Unit hN w0 w1 w2 w3
  have e1 : ∀ κ : K4, s_q91 N a b c p q r κ = cond (allFin [a, b, c]) (cond (allFin [p, q, r]) (cond (feq a (some 0) && (feq b (some 0) && feq c (some 0))) (κ (some 0) (some 0) (some 0) (some 0) 120) (cond (feq p (some 0) && (feq q (some 0) && feq r (some 0))) (κ (some 0) (some 0) (some 0) (some 0) 120)
      (cond (m != 0) (κ (some 0) (some 0) (some 0) (some 0) m) (cond (o != 0) (κ (some 0) (some 0) (some 0) (some 0) o) (betw (fun x y z w => s_q63 N x y z w κ) (fdiv a g) (fdiv b g) (fdiv c g) (fdiv p h) (fdiv q h) (fdiv r h)))))) (κ (some 0) (some 0) (some 0) (some 0) 4)) (κ (some 0) (some 0) (some 0) (some 0) 4) := by
    intro κ
    unfold s_q91 G_q91
    rw [law_q13 _ (small_of hN (Nat.le_of_ble_eq_true rfl))]
    cases allFin [a, b, c]
    · rfl
    · rw [show ((!true) == false) = true from rfl, cond_true, cond_true, law_q13 _ (small_of hN (Nat.le_of_ble_eq_true rfl))]
      cases allFin [p, q, r]
      · rfl
      · rw [Bool.not_true, cond_false, cond_true]
        cases (feq a (some 0) && (feq b (some 0) && feq c (some 0)))
        · rw [show (false == false) = true from rfl, cond_true, cond_false]
          cases (feq p (some 0) && (feq q (some 0) && feq r (some 0)))
          · rw [cond_false, cond_false]
            unfold s_q77 G_q77
            rw [gf]
            dsimp only
            cases hm0 : (m != 0)
            · rw [cond_false, show ((0 : Int) != 0) = false from rfl, cond_false, cond_false, of]
              cases ho0 : (o != 0)
              · rw [cond_false, cond_false, law_cross]
                unfold s_q30 G_q30 J_q183 J_q204
                simp only [law_cross, s_m_Abs, flt_self, cond_false]
                rfl
              · rfl
            · rfl
          · rfl
        · rfl
  have e2 : ∀ κ : K5, s_q105 N a b c p q r κ = cond (allFin [a, b, c]) (cond (allFin [p, q, r]) (cond (feq a (some 0) && (feq b (some 0) && feq c (some 0))) (κ (some 0) (some 0) (some 0) (some 0) (some 0) 120) (cond (feq p (some 0) && (feq q (some 0) && feq r (some 0))) (κ (some 0) (some 0) (some 0) (some 0) (some 0) 120)
      (cond (m != 0) (κ (some 0) (some 0) (some 0) (some 0) (some 0) 5) (cond (o != 0) (κ (some 0) (some 0) (some 0) (some 0) (some 0) 5) (betw (fun x y z w => s_q107 N x y z w (fun x y z w n => κ x y z w (dot3 (fdiv a g) (fdiv b g) (fdiv c g) (fdiv p h) (fdiv q h) (fdiv r h)) n)) (fdiv a g) (fdiv b g) (fdiv c g) (fdiv p h) (fdiv q h) (fdiv r h)))))) (κ (some 0) (some 0) (some 0) (some 0) (some 0) 4)) (κ (some 0) (some 0) (some 0) (some 0) (some 0) 4) := by
    intro κ
    unfold s_q105 G_q105
    rw [law_FiniteVec hN, law_FiniteVec hN]
    unfold s_q23 G_q23
    cases allFin [a, b, c] <;> cases allFin [p, q, r]
    · rfl
    · rfl
    · rfl
    · rw [Bool.not_true, cond_false, cond_false]
      dsimp only
      rw [show ((0 : Int) != 0) = false from rfl, cond_false, cond_true, cond_true]
      cases (feq a (some 0) && (feq b (some 0) && feq c (some 0)))
      · rw [show (false == false) = true from rfl, cond_true, cond_false]
        cases (feq p (some 0) && (feq q (some 0) && feq r (some 0)))
        · rw [cond_false, cond_false, gg, og]
          cases (m != 0)
          · rw [show (false == false) = true from rfl, cond_true, cond_false]
            cases (o != 0)
            · rw [cond_false, cond_false, law_ref_cross]
              unfold J_q193 J_q201
              simp only [law_ref_cross, s_m_Abs]
              unfold betw crs zero4
              dsimp only
              show cond (feq (fadd (some 4607182418800017408) (dot3 (fdiv a g) (fdiv b g) (fdiv c g) (fdiv p h) (fdiv q h) (fdiv r h))) (some 0) == true) _ _ = _
              cases feq (fadd (some 4607182418800017408) (dot3 (fdiv a g) (fdiv b g) (fdiv c g) (fdiv p h) (fdiv q h) (fdiv r h))) (some 0) <;> rfl
            · rfl
          · rfl
        · rfl
      · rfl
  simp only [hB, uf] at e1
  simp only [hB, ug] at e2
  cases h1 : allFin [a, b, c] with
  | false => exact ⟨_, _, _, _, 4, _, ⟨Nn_zero, Nn_zero, Nn_zero, Nn_zero⟩, fun κ => by rw [e1, h1]; rfl, fun κ => by rw [e2, h1]; rfl⟩
  | true =>
    cases h2 : allFin [p, q, r] with
    | false => exact ⟨_, _, _, _, 4, _, ⟨Nn_zero, Nn_zero, Nn_zero, Nn_zero⟩, fun κ => by rw [e1, h1, h2]; rfl, fun κ => by rw [e2, h1, h2]; rfl⟩
    | true =>
      cases h3 : (feq a (some 0) && (feq b (some 0) && feq c (some 0))) with
      | true => exact ⟨_, _, _, _, 120, _, ⟨Nn_zero, Nn_zero, Nn_zero, Nn_zero⟩, fun κ => by rw [e1, h1, h2, h3]; rfl, fun κ => by rw [e2, h1, h2, h3]; rfl⟩
      | false =>
        cases h4 : (feq p (some 0) && (feq q (some 0) && feq r (some 0))) with
        | true => exact ⟨_, _, _, _, 120, _, ⟨Nn_zero, Nn_zero, Nn_zero, Nn_zero⟩, fun κ => by rw [e1, h1, h2, h3, h4]; rfl, fun κ => by rw [e2, h1, h2, h3, h4]; rfl⟩
        | false =>
          rcases hm h1 with rfl | rfl
          · rcases ho h2 with rfl | rfl
            · exact ⟨x', y', z', w', n, _, hs, fun κ => by rw [e1, h1, h2, h3, h4]; rfl, fun κ => by rw [e2, h1, h2, h3, h4]; rfl⟩
            · exact ⟨_, _, _, _, 5, _, ⟨Nn_zero, Nn_zero, Nn_zero, Nn_zero⟩, fun κ => by rw [e1, h1, h2, h3, h4]; rfl, fun κ => by rw [e2, h1, h2, h3, h4]; rfl⟩
          · exact ⟨_, _, _, _, 5, _, ⟨Nn_zero, Nn_zero, Nn_zero, Nn_zero⟩, fun κ => by rw [e1, h1, h2, h3, h4]; rfl, fun κ => by rw [e2, h1, h2, h3, h4]; rfl⟩
theorem law_QuatTurns {N : Nat} (hN : 1000 <= N) {x0 x1 x2 x3 u0 u1 u2 v0 v1 v2 : Int} (hu0 : u0.toNat < 18446744073709551616) (hu1 : u1.toNat < 18446744073709551616) (hu2 : u2.toNat < 18446744073709551616) (hv0 : v0.toNat < 18446744073709551616) (hv1 : v1.toNat < 18446744073709551616) (hv2 : v2.toNat < 18446744073709551616) (k : Bool -> Bool) : s_q62 N x0 x1 x2 x3 u0 u1 u2 v0 v1 v2 k = k true := by
  have hv : ∀ (x y z w : Int) (k : Fl -> Fl -> Fl -> Fl -> Bool), s_q46 N x y z w k = k (canon x.toNat) (canon y.toNat) (canon z.toNat) (canon w.toNat) := fun _ _ _ _ _ => rfl
  have hf : ∀ (x y z : Int) (k : Fl -> Fl -> Fl -> Bool), s_q50 N x y z k = k (canon x.toNat) (canon y.toNat) (canon z.toNat) := fun _ _ _ _ => rfl
  unfold s_q62 G_q62
  simp only [hv, hf]
  have gu0 := canon_FW hu0
  have gu1 := canon_FW hu1
  have gu2 := canon_FW hu2
  have gv0 := canon_FW hv0
  have gv1 := canon_FW hv1
  have gv2 := canon_FW hv2
  generalize canon x0.toNat = w
  generalize canon x1.toNat = a
  generalize canon x2.toNat = b
  generalize canon x3.toNat = c
  generalize canon u0.toNat = p at *
  generalize canon u1.toNat = q at *
  generalize canon u2.toNat = r at *
  generalize canon v0.toNat = s at *
  generalize canon v1.toNat = t at *
  generalize canon v2.toNat = u at *
  obtain ⟨m0, m1, m2, m4, ms, mf, mg⟩ := law_Turn hN w a b c p q r
  obtain ⟨n0, n1, n2, n4, ns, nf, ng⟩ := law_Cross hN p q r s t u
  obtain ⟨o0, o1, o2, o4, os, of, og⟩ := law_Gibbs hN w a b c
  obtain ⟨c0, c1, c2, c3, c4, cs, cf, cg⟩ := law_Cayley hN p q r
  obtain ⟨d0, d1, d2, d3, d4, d5, ds, df, dg⟩ := law_Between hN gu0 gu1 gu2 gv0 gv1 gv2
  rw [mf, mg, law_vecs N ms, show ((!true) == false) = true from rfl, cond_true, law_awake hN, Bool.not_true, cond_false, nf, ng, law_vecs N ns, Bool.not_true, cond_false, of, og, law_vecs N os, Bool.not_true, cond_false, cf, cg, law_quats N cs, Bool.not_true, cond_false, df, dg, law_quats N ds]

end Go.Proofs.YtccocdgimamdhaaGreatDoor
end
