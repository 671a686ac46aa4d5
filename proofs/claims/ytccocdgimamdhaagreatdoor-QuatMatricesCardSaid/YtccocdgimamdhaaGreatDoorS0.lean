/-
  THE CHAPTER's FIRST EXAMPLES come out.
  Conditions: a loop's fuel is at least 1000.
-/
import Derived.Test.YtccocdgimamdhaaGreatDoorR6
section
namespace Go.Proofs.YtccocdgimamdhaaGreatDoor
open Go Go.Mach Ieee
set_option linter.unusedVariables false
set_option maxRecDepth 100000
theorem law_awake {N : Nat} (hN : 1000 <= N) (k : Bool -> Bool) : s_q20 N k = k true := by
  obtain ⟨M, rfl⟩ : ∃ M, N = M + 1000 := ⟨N - 1000, by omega⟩
  kernel_rfl
end Go.Proofs.YtccocdgimamdhaaGreatDoor
end
section
namespace Go.Proofs.YtccocdgimamdhaaGreatDoor
open Go Go.Mach Ieee
set_option linter.unusedVariables false

theorem small_of {N : Nat} (hN : 1000 <= N) {n : Nat} (h : n <= 48) : Small N n := ⟨by omega, by omega⟩
theorem le4 (a b c d : Fl) : [a, b, c, d].length <= 48 := Nat.le_of_ble_eq_true rfl
theorem law_q21 {N : Nat} (xs : List Fl) (hl : Small N xs.length) (k : Bool -> Bool) : s_q21 N xs k = k (allFin xs) := by
  unfold s_q21 G_q21
  rw [<- cond_k (allFin xs) k]
  refine (iterG_all (fun i => (i : Int)) (fun i => finF (xs.getD i none)) xs.length hl.1 (fun i hi K => ?_) (fun K => ?_) : _)
  · have h2 := hl.2
    simp only [st_quat_finite_0, Int.toNat_natCast, fin_eq]
    rw [dec_true (by omega), cond_true, and_true_of (inR_of (by omega) (by omega)), and_true_of (inR_of (by omega) (by omega)), and_true_of (fits_ok (by omega) (by omega))]
    cases finF (xs.getD i none) <;> rfl
  · simp only [st_quat_finite_0]
    rw [dec_false (by omega), cond_false]
theorem law_Finite4 {N : Nat} (hN : 1000 <= N) (a b c d : Fl) (k : Bool -> Bool) : s_q49 N a b c d k = k (allFin [a, b, c, d]) :=
  law_AllFinite _ (small_of hN (Nat.le_of_ble_eq_true rfl)) _
theorem law_good {N : Nat} (hN : 1000 <= N) (a b c d : Fl) (k : Bool -> Bool) : s_q12 N a b c d k = k (allFin [a, b, c, d]) := by
  unfold s_q12 G_q12
  rw [law_q21 _ (small_of hN (Nat.le_of_ble_eq_true rfl))]
  cases allFin [a, b, c, d] <;> rfl
theorem law_told {N : Nat} (hN : 1000 <= N) (a b c d : Fl) (k : Fl -> Fl -> Fl -> Fl -> Int -> Bool) : s_q99 N a b c d k = cond (!allFin [a, b, c, d]) (k (some 0) (some 0) (some 0) (some 0) 5) (k a b c d 0) := by
  unfold s_q99 G_q99
  rw [law_good hN]

theorem FW4 {a b c d : Fl} (ha : FW a) (hb : FW b) (hc : FW c) (hd : FW d) : ∀ i, i < [a, b, c, d].length -> FW ([a, b, c, d].getD i none) := by
  intro i hi
  match i, hi with
  | 0, _ => exact ha
  | 1, _ => exact hb
  | 2, _ => exact hc
  | 3, _ => exact hd

def Nn (x : Fl) : Prop := ∃ b, x = some b /\ isNaN b = false
theorem Nn_zero : Nn (some 0) := ⟨0, rfl, by decide⟩
theorem Nn_word (s : Bool) {r : Nat} (h : r <= 9218868437227405312) : Nn (some (Ieee.double.word s r)) := by
  refine ⟨_, rfl, ?_⟩
  rw [Bool.eq_false_iff]
  intro hc
  have h1 := (isNaN_iff _).1 hc
  have hw : Ieee.double.word s r % 9223372036854775808 = r := by
    unfold Format.word; rw [signWeight_d]; cases s <;> simp <;> omega
  omega
theorem Nn_nearest (s : Bool) (m : Nat) (i : Int) : Nn (some (Ieee.double.nearest s m i)) := by
  obtain ⟨r, h, hr⟩ := nearest_le s m i
  rw [h]; exact Nn_word s hr
theorem Nn_fdiv {x y : Fl} (hx : finF x = true) (hy : Dv y) : Nn (fdiv x y) := by
  obtain ⟨a, s, m, i, rfl, ha⟩ := finF_num hx
  obtain ⟨b, rfl, hb⟩ := hy
  show Nn (((Ieee.double.read a).quotient (Ieee.double.fractionBits + 2) (Ieee.double.read b)).map Ieee.double.write)
  rw [ha]
  rcases hb with hb | ⟨n, j, hb, hn⟩
  · rw [hb]; exact Nn_nearest _ _ _
  · rw [hb]; simp only [Datum.quotient, if_neg hn]; exact Nn_nearest _ _ _
theorem law_same (N : Nat) {a : Fl} (h : Nn a) (k : Bool -> Bool) : s_q61 N a a k = k true := by
  obtain ⟨b, rfl, hb⟩ := h
  unfold s_q61 G_q61
  show s_q114 N (some b) _ = _
  rw [law_Bits]
  have : bitsF (some b) = b := by simp only [bitsF, cnb, hb]; rfl
  rw [this]
  show k (((b : Nat) : Int) == ((b : Nat) : Int)) = _
  rw [beq_self_eq_true]

abbrev K4 : Type := Fl -> Fl -> Fl -> Fl -> Int -> Bool
def Both4 (f g : K4 -> Bool) : Prop := ∃ a b c d n, (Nn a /\ Nn b /\ Nn c /\ Nn d) /\ (∀ κ, f κ = κ a b c d n) /\ (∀ κ, g κ = κ a b c d n)
theorem both_err {f g : K4 -> Bool} {n : Int} (hf : ∀ κ, f κ = κ (some 0) (some 0) (some 0) (some 0) n) (hg : ∀ κ, g κ = κ (some 0) (some 0) (some 0) (some 0) n) : Both4 f g :=
  ⟨_, _, _, _, n, ⟨Nn_zero, Nn_zero, Nn_zero, Nn_zero⟩, hf, hg⟩

theorem unit_q {N : Nat} (hN : 1000 <= N) {a b c d : Fl} (hall : allFin [a, b, c, d] = true) (hf : FinW [a, b, c, d]) {fr : Fl} {e : Int} (h0 : feq (mostF [a, b, c, d] 4) (some 0) = false)
    (he : ∀ κ : Fl -> Int -> Bool, s_q127 N (mostF [a, b, c, d] 4) κ = κ fr e) (he1 : -1200 <= e) (he2 : e <= 1200) (κ : K4) :
    s_q89 N a b c d κ = (fun g => κ (fdiv (sclF a (1 - e)) g) (fdiv (sclF b (1 - e)) g) (fdiv (sclF c (1 - e)) g) (fdiv (sclF d (1 - e)) g) 0) (fsqrt (fadd (fadd (fadd (fadd (some 0) (fmul (sclF a (1 - e)) (sclF a (1 - e)))) (fmul (sclF b (1 - e)) (sclF b (1 - e)))) (fmul (sclF c (1 - e)) (sclF c (1 - e)))) (fmul (sclF d (1 - e)) (sclF d (1 - e))))) := by
  obtain ⟨a1, a2⟩ := hf 0 (Nat.le_of_ble_eq_true rfl)
  obtain ⟨b1, b2⟩ := hf 1 (Nat.le_of_ble_eq_true rfl)
  obtain ⟨c1, c2⟩ := hf 2 (Nat.le_of_ble_eq_true rfl)
  obtain ⟨d1, d2⟩ := hf 3 (Nat.le_of_ble_eq_true rfl)
  have hk : fits .i64 (1 - e) = true := fits_ok (by omega) (by omega)
  unfold s_q89 G_q89
  rw [law_good hN, hall, Bool.not_true, cond_false]
  unfold s_q55 G_q55
  simp only [s_m_Abs]
  have hm : fmm true (fmm true (fmm true (fmm true (some 0) (absF a)) (absF b)) (absF c)) (absF d) = mostF [a, b, c, d] 4 := rfl
  rw [hm, h0, cond_false, he, hk, Bool.true_and]
  refine (law_Ldexp N a1 a2 (by omega) (by omega) _).trans ?_
  rw [Bool.true_and]
  refine (law_Ldexp N b1 b2 (by omega) (by omega) _).trans ?_
  rw [Bool.true_and]
  refine (law_Ldexp N c1 c2 (by omega) (by omega) _).trans ?_
  rw [Bool.true_and]
  refine (law_Ldexp N d1 d2 (by omega) (by omega) _).trans ?_
  rfl
theorem unit_r {N : Nat} (hN : 1000 <= N) {a b c d : Fl} (hall : allFin [a, b, c, d] = true) (hf : FinW [a, b, c, d]) {fr : Fl} {e : Int} (h0 : feq (mostF [a, b, c, d] 4) (some 0) = false)
    (he : ∀ κ : Fl -> Int -> Bool, s_q127 N (mostF [a, b, c, d] 4) κ = κ fr e) (he1 : -1200 <= e) (he2 : e <= 1200) (κ : K4) :
    s_q106 N a b c d κ = (fun g => κ (fdiv (sclF a (1 - e)) g) (fdiv (sclF b (1 - e)) g) (fdiv (sclF c (1 - e)) g) (fdiv (sclF d (1 - e)) g) 0) (fsqrt (fadd (fadd (fadd (fmul (sclF a (1 - e)) (sclF a (1 - e))) (fmul (sclF b (1 - e)) (sclF b (1 - e)))) (fmul (sclF c (1 - e)) (sclF c (1 - e)))) (fmul (sclF d (1 - e)) (sclF d (1 - e))))) := by
  obtain ⟨a1, a2⟩ := hf 0 (Nat.le_of_ble_eq_true rfl)
  obtain ⟨b1, b2⟩ := hf 1 (Nat.le_of_ble_eq_true rfl)
  obtain ⟨c1, c2⟩ := hf 2 (Nat.le_of_ble_eq_true rfl)
  obtain ⟨d1, d2⟩ := hf 3 (Nat.le_of_ble_eq_true rfl)
  have hk : fits .i64 (1 - e) = true := fits_ok (by omega) (by omega)
  have hk2 : 0 - (e - 1) = 1 - e := by omega
  unfold s_q106 G_q106
  rw [law_Finite4 hN, hall]
  unfold s_q57 G_q57
  rw [Bool.not_true, cond_false]
  dsimp only
  rw [show ((0 : Int) != 0) = false from rfl, cond_false]
  unfold s_q133 G_q133
  refine (law_Power hN (le4 a b c d) _).trans ?_
  rw [show [a, b, c, d].length = 4 from rfl, h0, cond_false, he]
  rw [and_tr (fits_ok (by omega) (by omega)), Bool.not_true, cond_false]
  simp only [hk2, hk, Bool.true_and]
  refine (and_true_of (by rfl)).trans ?_
  refine (and_true_of (by rfl)).trans ?_
  refine (law_Times hN a1 a2 (by omega) (by omega) _).trans ?_
  generalize sclF ([a, b, c, d].getD 0 none) (1 - e) = ya
  refine (and_true_of (by rfl)).trans ?_
  refine (and_true_of (by rfl)).trans ?_
  refine (and_true_of (by rfl)).trans ?_
  refine (and_true_of (by rfl)).trans ?_
  refine (law_Times hN b1 b2 (by omega) (by omega) _).trans ?_
  refine (and_true_of (by rfl)).trans ?_
  refine (and_true_of (by rfl)).trans ?_
  refine (and_true_of (by rfl)).trans ?_
  refine (and_true_of (by rfl)).trans ?_
  refine (law_Times hN c1 c2 (by omega) (by omega) _).trans ?_
  refine (and_true_of (by rfl)).trans ?_
  refine (and_true_of (by rfl)).trans ?_
  refine (and_true_of (by rfl)).trans ?_
  refine (and_true_of (by rfl)).trans ?_
  refine (law_Times hN d1 d2 (by omega) (by omega) _).trans ?_
  kernel_rfl
theorem law_Unit {N : Nat} (hN : 1000 <= N) {a b c d : Fl} (ha : FW a) (hb : FW b) (hc : FW c) (hd : FW d) : Both4 (s_q89 N a b c d) (s_q106 N a b c d) := by
  cases hall : allFin [a, b, c, d] with
  | false =>
    refine both_err (n := 4) (fun κ => ?_) (fun κ => ?_)
    · unfold s_q89 G_q89
      rw [law_good hN, hall]; rfl
    · unfold s_q106 G_q106
      rw [law_Finite4 hN, hall]; rfl
  | true =>
    have hf := finW_of (FW4 ha hb hc hd) hall
    cases h0 : feq (mostF [a, b, c, d] 4) (some 0) with
    | true =>
      refine both_err (n := 120) (fun κ => ?_) (fun κ => ?_)
      · unfold s_q89 G_q89
        rw [law_good hN, hall, Bool.not_true, cond_false]
        unfold s_q55 G_q55
        simp only [s_m_Abs]
        have hm : fmm true (fmm true (fmm true (fmm true (some 0) (absF a)) (absF b)) (absF c)) (absF d) = mostF [a, b, c, d] 4 := rfl
        rw [hm, h0, cond_true]
      · unfold s_q106 G_q106
        rw [law_Finite4 hN, hall]
        unfold s_q57 G_q57
        rw [Bool.not_true, cond_false]
        dsimp only
        rw [show ((0 : Int) != 0) = false from rfl, cond_false]
        unfold s_q133 G_q133
        refine (law_Power hN (le4 a b c d) _).trans ?_
        rw [show [a, b, c, d].length = 4 from rfl, h0]; rfl
    | false =>
      obtain ⟨fr, e, he, he1, he2, hfin, j, hj, hge⟩ := scl_facts (N := N) hf h0
      have q := unit_q hN hall hf h0 he he1 he2
      have r := unit_r hN hall hf h0 he he1 he2
      have na : NN (fmul (sclF a (1 - e)) (sclF a (1 - e))) := NN_sclF (hf 0 (Nat.le_of_ble_eq_true rfl)).1 _
      have nb : NN (fmul (sclF b (1 - e)) (sclF b (1 - e))) := NN_sclF (hf 1 (Nat.le_of_ble_eq_true rfl)).1 _
      have nc : NN (fmul (sclF c (1 - e)) (sclF c (1 - e))) := NN_sclF (hf 2 (Nat.le_of_ble_eq_true rfl)).1 _
      have nd : NN (fmul (sclF d (1 - e)) (sclF d (1 - e))) := NN_sclF (hf 3 (Nat.le_of_ble_eq_true rfl)).1 _
      simp only [zero_fadd_NN na] at q
      have hg : GE1 (fadd (fadd (fadd (fmul (sclF a (1 - e)) (sclF a (1 - e))) (fmul (sclF b (1 - e)) (sclF b (1 - e)))) (fmul (sclF c (1 - e)) (sclF c (1 - e)))) (fmul (sclF d (1 - e)) (sclF d (1 - e)))) := by
        match j, hj, hge with
        | 0, _, h => exact GE1_fadd (GE1_fadd (GE1_fadd h nb) nc) nd
        | 1, _, h => exact GE1_fadd (GE1_fadd (GE1_fadd' na h) nc) nd
        | 2, _, h => exact GE1_fadd (GE1_fadd' (NN_fadd na nb) h) nd
        | 3, _, h => exact GE1_fadd' (NN_fadd (NN_fadd na nb) nc) h
      have hv := Dv_fsqrt hg
      exact ⟨_, _, _, _, 0, ⟨Nn_fdiv (hfin 0 (Nat.le_of_ble_eq_true rfl)) hv, Nn_fdiv (hfin 1 (Nat.le_of_ble_eq_true rfl)) hv, Nn_fdiv (hfin 2 (Nat.le_of_ble_eq_true rfl)) hv, Nn_fdiv (hfin 3 (Nat.le_of_ble_eq_true rfl)) hv⟩, q, r⟩

theorem law_quats (N : Nat) {a b c d : Fl} (h : Nn a /\ Nn b /\ Nn c /\ Nn d) (n : Int) (k : Bool -> Bool) : s_q25 N a b c d n a b c d n k = k true := by
  unfold s_q25 G_q25
  rw [law_same N h.1, show (true == true) = true from rfl, cond_true, law_same N h.2.1, show (true == true) = true from rfl, cond_true, law_same N h.2.2.1, show (true == true) = true from rfl, cond_true, law_same N h.2.2.2, show (true == true) = true from rfl, cond_true, beq_self_eq_true]

end Go.Proofs.YtccocdgimamdhaaGreatDoor
end
section
namespace Go.Proofs.YtccocdgimamdhaaGreatDoor
open Go Go.Mach Ieee
set_option linter.unusedVariables false
set_option maxRecDepth 4000

def jq (N : Nat) (a b c d : Fl) (κ : K4) : Bool := cond (!allFin [a, b, c, d]) (κ (some 0) (some 0) (some 0) (some 0) 5) (s_q89 N a b c d κ)
def jr (N : Nat) (L : List Fl) (t a b c d : Fl) (κ : K4) : Bool := J_q174 N (s_q94 N) (s_q148 N) (s_q85 N) (s_q49 N) (s_q48 N) (s_q106 N) 3 3 L t a b c d κ
theorem jq_eq {N : Nat} (hN : 1000 <= N) (m0 m1 : Int) (m2 : List Fl) (a b c d : Fl) (κ : K4) : J_q188 N (s_q75 N) (s_q30 N) (s_q21 N) (s_q99 N) (s_q89 N) m0 m1 m2 a b c d κ = jq N a b c d κ := by
  unfold J_q188 jq
  rw [law_told hN]
  cases allFin [a, b, c, d] <;> rfl
theorem jr_eq {N : Nat} (hN : 1000 <= N) (L : List Fl) (t a b c d : Fl) (κ : K4) : jr N L t a b c d κ = cond (!allFin [a, b, c, d]) (κ (some 0) (some 0) (some 0) (some 0) 5) (cond (!finF t) (κ (some 0) (some 0) (some 0) (some 0) 5) (s_q106 N a b c d κ)) := by
  unfold jr J_q174
  rw [law_Finite4 hN, law_ref_Finite]
  cases allFin [a, b, c, d] <;> cases finF t <;> rfl
theorem jr_nf {N : Nat} (hN : 1000 <= N) (L : List Fl) {t : Fl} (ht : finF t = false) (a b c d : Fl) (κ : K4) : jr N L t a b c d κ = κ (some 0) (some 0) (some 0) (some 0) 5 := by
  rw [jr_eq hN, ht]
  cases allFin [a, b, c, d] <;> rfl
theorem both_j {N : Nat} (hN : 1000 <= N) (L : List Fl) {t : Fl} (ht : finF t = true) {a b c d : Fl} (ha : FW a) (hb : FW b) (hc : FW c) (hd : FW d) : Both4 (jq N a b c d) (jr N L t a b c d) := by
  cases hall : allFin [a, b, c, d] with
  | false =>
    refine both_err (n := 5) (fun κ => ?_) (fun κ => ?_)
    · unfold jq; rw [hall]; rfl
    · rw [jr_eq hN, hall]; rfl
  | true =>
    obtain ⟨x, y, z, w, n, h, f, g⟩ := law_Unit hN ha hb hc hd
    refine ⟨x, y, z, w, n, h, fun κ => ?_, fun κ => ?_⟩
    · unfold jq; rw [hall]; exact f κ
    · rw [jr_eq hN, hall, ht]; exact g κ

theorem nine_chk {a0 a1 a2 a3 a4 a5 a6 a7 a8 : Fl} (h : allFin [a0, a1, a2, a3, a4, a5, a6, a7, a8] = true) : chk 3 3 [a0, a1, a2, a3, a4, a5, a6, a7, a8] = 0 := chk_zero.2 ⟨by decide, rfl, h⟩
theorem rd00 (N : Nat) (a0 a1 a2 a3 a4 a5 a6 a7 a8 : Fl) (κ : Fl -> Bool) : s_q30 N 0 0 3 3 [a0, a1, a2, a3, a4, a5, a6, a7, a8] κ = κ a0 := by kernel_rfl
theorem rd11 (N : Nat) (a0 a1 a2 a3 a4 a5 a6 a7 a8 : Fl) (κ : Fl -> Bool) : s_q30 N 1 1 3 3 [a0, a1, a2, a3, a4, a5, a6, a7, a8] κ = κ a4 := by kernel_rfl
theorem rd22 (N : Nat) (a0 a1 a2 a3 a4 a5 a6 a7 a8 : Fl) (κ : Fl -> Bool) : s_q30 N 2 2 3 3 [a0, a1, a2, a3, a4, a5, a6, a7, a8] κ = κ a8 := by kernel_rfl
theorem rd21 (N : Nat) (a0 a1 a2 a3 a4 a5 a6 a7 a8 : Fl) (κ : Fl -> Bool) : s_q30 N 2 1 3 3 [a0, a1, a2, a3, a4, a5, a6, a7, a8] κ = κ a7 := by kernel_rfl
theorem rd12 (N : Nat) (a0 a1 a2 a3 a4 a5 a6 a7 a8 : Fl) (κ : Fl -> Bool) : s_q30 N 1 2 3 3 [a0, a1, a2, a3, a4, a5, a6, a7, a8] κ = κ a5 := by kernel_rfl
theorem rd02 (N : Nat) (a0 a1 a2 a3 a4 a5 a6 a7 a8 : Fl) (κ : Fl -> Bool) : s_q30 N 0 2 3 3 [a0, a1, a2, a3, a4, a5, a6, a7, a8] κ = κ a2 := by kernel_rfl
theorem rd20 (N : Nat) (a0 a1 a2 a3 a4 a5 a6 a7 a8 : Fl) (κ : Fl -> Bool) : s_q30 N 2 0 3 3 [a0, a1, a2, a3, a4, a5, a6, a7, a8] κ = κ a6 := by kernel_rfl
theorem rd10 (N : Nat) (a0 a1 a2 a3 a4 a5 a6 a7 a8 : Fl) (κ : Fl -> Bool) : s_q30 N 1 0 3 3 [a0, a1, a2, a3, a4, a5, a6, a7, a8] κ = κ a3 := by kernel_rfl
theorem rd01 (N : Nat) (a0 a1 a2 a3 a4 a5 a6 a7 a8 : Fl) (κ : Fl -> Bool) : s_q30 N 0 1 3 3 [a0, a1, a2, a3, a4, a5, a6, a7, a8] κ = κ a1 := by kernel_rfl
theorem allFin_one {N : Nat} (hN : 1000 <= N) (x : Fl) (k : Bool -> Bool) : s_q21 N [x] k = k (finF x) := by
  rw [law_q21 [x] (small_of hN (Nat.le_of_ble_eq_true rfl))]
  have : allFin [x] = finF x := by
    show (allN _ 1) = _
    rw [Bool.eq_iff_iff, allN_iff]
    constructor
    · intro h; exact h 0 (by decide)
    · intro h i hi
      have : i = 0 := by omega
      subst this; exact h
  rw [this]
theorem from_q {N : Nat} (hN : 1000 <= N) {a0 a1 a2 a3 a4 a5 a6 a7 a8 : Fl} (h : allFin [a0, a1, a2, a3, a4, a5, a6, a7, a8] = true) {t : Fl} (ht : (fadd (fadd a0 a4) a8) = t) (κ : K4) : s_q88 N 3 3 [a0, a1, a2, a3, a4, a5, a6, a7, a8] κ = cond (!finF t) (κ (some 0) (some 0) (some 0) (some 0) 5) (cond (feq (fmm true (fmm true (fmm true t a0) a4) a8) t) (jq N (fadd (some 4607182418800017408) t) (fsub a7 a5) (fsub a2 a6) (fsub a3 a1) κ) (cond (feq (fmm true (fmm true (fmm true t a0) a4) a8) a0) (jq N (fsub a7 a5) (fsub (fsub (fadd (some 4607182418800017408) a0) a4) a8) (fadd a1 a3) (fadd a2 a6) κ) (cond (feq (fmm true (fmm true (fmm true t a0) a4) a8) a4) (jq N (fsub a2 a6) (fadd a1 a3) (fsub (fadd (fsub (some 4607182418800017408) a0) a4) a8) (fadd a5 a7) κ) (jq N (fsub a3 a1) (fadd a2 a6) (fadd a5 a7) (fadd (fsub (fsub (some 4607182418800017408) a0) a4) a8) κ)))) := by
  unfold s_q88 G_q88
  rw [law_Check 3 3 _ (small_of hN (Nat.le_of_ble_eq_true rfl)), nine_chk h]
  rw [show ((0 : Int) != 0) = false from rfl, cond_false, show (((3 : Int) != 3) == false) = true from rfl, cond_true, show ((3 : Int) != 3) = false from rfl, cond_false]
  rw [rd00, rd11, rd22, ht, allFin_one hN]
  cases finF t
  · rfl
  · rw [Bool.not_true, cond_false, cond_false]
    rw [rd21, rd12, rd02, rd20, rd10, rd01, rd01, rd10, rd02, rd20, rd12, rd21]
    simp only [jq_eq hN]
theorem selB (p1 p2 p3 p4 p5 p6 A B C D : Bool) : (cond (p1 == true) (cond (p2 == true) (cond p3 A (cond (p4 == true) (cond p5 B (cond p6 C D)) (cond p6 C D))) (cond (p4 == true) (cond p5 B (cond p6 C D)) (cond p6 C D))) (cond (p4 == true) (cond p5 B (cond p6 C D)) (cond p6 C D))) = cond (p1 && (p2 && p3)) A (cond (p4 && p5) B (cond p6 C D)) := by
  cases p1 <;> cases p2 <;> cases p3 <;> cases p4 <;> cases p5 <;> cases p6 <;> rfl
def selR (N : Nat) (a0 a1 a2 a3 a4 a5 a6 a7 a8 t : Fl) (κ : K4) : Bool := (cond ((fge t a0) == true) (cond ((fge t a4) == true) (cond (fge t a8) (jr N [a0, a1, a2, a3, a4, a5, a6, a7, a8] t (fadd (some 4607182418800017408) t) (fsub a7 a5) (fsub a2 a6) (fsub a3 a1) κ) (cond ((fge a0 a4) == true) (cond (fge a0 a8) (jr N [a0, a1, a2, a3, a4, a5, a6, a7, a8] t (fsub a7 a5) (fsub (fsub (fadd (some 4607182418800017408) a0) a4) a8) (fadd a1 a3) (fadd a2 a6) κ) (cond (fge a4 a8) (jr N [a0, a1, a2, a3, a4, a5, a6, a7, a8] t (fsub a2 a6) (fadd a1 a3) (fsub (fadd (fsub (some 4607182418800017408) a0) a4) a8) (fadd a5 a7) κ) (jr N [a0, a1, a2, a3, a4, a5, a6, a7, a8] t (fsub a3 a1) (fadd a2 a6) (fadd a5 a7) (fadd (fsub (fsub (some 4607182418800017408) a0) a4) a8) κ))) (cond (fge a4 a8) (jr N [a0, a1, a2, a3, a4, a5, a6, a7, a8] t (fsub a2 a6) (fadd a1 a3) (fsub (fadd (fsub (some 4607182418800017408) a0) a4) a8) (fadd a5 a7) κ) (jr N [a0, a1, a2, a3, a4, a5, a6, a7, a8] t (fsub a3 a1) (fadd a2 a6) (fadd a5 a7) (fadd (fsub (fsub (some 4607182418800017408) a0) a4) a8) κ)))) (cond ((fge a0 a4) == true) (cond (fge a0 a8) (jr N [a0, a1, a2, a3, a4, a5, a6, a7, a8] t (fsub a7 a5) (fsub (fsub (fadd (some 4607182418800017408) a0) a4) a8) (fadd a1 a3) (fadd a2 a6) κ) (cond (fge a4 a8) (jr N [a0, a1, a2, a3, a4, a5, a6, a7, a8] t (fsub a2 a6) (fadd a1 a3) (fsub (fadd (fsub (some 4607182418800017408) a0) a4) a8) (fadd a5 a7) κ) (jr N [a0, a1, a2, a3, a4, a5, a6, a7, a8] t (fsub a3 a1) (fadd a2 a6) (fadd a5 a7) (fadd (fsub (fsub (some 4607182418800017408) a0) a4) a8) κ))) (cond (fge a4 a8) (jr N [a0, a1, a2, a3, a4, a5, a6, a7, a8] t (fsub a2 a6) (fadd a1 a3) (fsub (fadd (fsub (some 4607182418800017408) a0) a4) a8) (fadd a5 a7) κ) (jr N [a0, a1, a2, a3, a4, a5, a6, a7, a8] t (fsub a3 a1) (fadd a2 a6) (fadd a5 a7) (fadd (fsub (fsub (some 4607182418800017408) a0) a4) a8) κ)))) (cond ((fge a0 a4) == true) (cond (fge a0 a8) (jr N [a0, a1, a2, a3, a4, a5, a6, a7, a8] t (fsub a7 a5) (fsub (fsub (fadd (some 4607182418800017408) a0) a4) a8) (fadd a1 a3) (fadd a2 a6) κ) (cond (fge a4 a8) (jr N [a0, a1, a2, a3, a4, a5, a6, a7, a8] t (fsub a2 a6) (fadd a1 a3) (fsub (fadd (fsub (some 4607182418800017408) a0) a4) a8) (fadd a5 a7) κ) (jr N [a0, a1, a2, a3, a4, a5, a6, a7, a8] t (fsub a3 a1) (fadd a2 a6) (fadd a5 a7) (fadd (fsub (fsub (some 4607182418800017408) a0) a4) a8) κ))) (cond (fge a4 a8) (jr N [a0, a1, a2, a3, a4, a5, a6, a7, a8] t (fsub a2 a6) (fadd a1 a3) (fsub (fadd (fsub (some 4607182418800017408) a0) a4) a8) (fadd a5 a7) κ) (jr N [a0, a1, a2, a3, a4, a5, a6, a7, a8] t (fsub a3 a1) (fadd a2 a6) (fadd a5 a7) (fadd (fsub (fsub (some 4607182418800017408) a0) a4) a8) κ))))
theorem selR_eq (N : Nat) (a0 a1 a2 a3 a4 a5 a6 a7 a8 t : Fl) (κ : K4) : selR N a0 a1 a2 a3 a4 a5 a6 a7 a8 t κ = cond (fge t a0 && (fge t a4 && fge t a8)) (jr N [a0, a1, a2, a3, a4, a5, a6, a7, a8] t (fadd (some 4607182418800017408) t) (fsub a7 a5) (fsub a2 a6) (fsub a3 a1) κ) (cond (fge a0 a4 && fge a0 a8) (jr N [a0, a1, a2, a3, a4, a5, a6, a7, a8] t (fsub a7 a5) (fsub (fsub (fadd (some 4607182418800017408) a0) a4) a8) (fadd a1 a3) (fadd a2 a6) κ) (cond (fge a4 a8) (jr N [a0, a1, a2, a3, a4, a5, a6, a7, a8] t (fsub a2 a6) (fadd a1 a3) (fsub (fadd (fsub (some 4607182418800017408) a0) a4) a8) (fadd a5 a7) κ) (jr N [a0, a1, a2, a3, a4, a5, a6, a7, a8] t (fsub a3 a1) (fadd a2 a6) (fadd a5 a7) (fadd (fsub (fsub (some 4607182418800017408) a0) a4) a8) κ))) := by
  unfold selR
  exact selB (fge t a0) (fge t a4) (fge t a8) (fge a0 a4) (fge a0 a8) (fge a4 a8) (jr N [a0, a1, a2, a3, a4, a5, a6, a7, a8] t (fadd (some 4607182418800017408) t) (fsub a7 a5) (fsub a2 a6) (fsub a3 a1) κ) (jr N [a0, a1, a2, a3, a4, a5, a6, a7, a8] t (fsub a7 a5) (fsub (fsub (fadd (some 4607182418800017408) a0) a4) a8) (fadd a1 a3) (fadd a2 a6) κ) (jr N [a0, a1, a2, a3, a4, a5, a6, a7, a8] t (fsub a2 a6) (fadd a1 a3) (fsub (fadd (fsub (some 4607182418800017408) a0) a4) a8) (fadd a5 a7) κ) (jr N [a0, a1, a2, a3, a4, a5, a6, a7, a8] t (fsub a3 a1) (fadd a2 a6) (fadd a5 a7) (fadd (fsub (fsub (some 4607182418800017408) a0) a4) a8) κ)
theorem from_r {N : Nat} (hN : 1000 <= N) {a0 a1 a2 a3 a4 a5 a6 a7 a8 : Fl} (h : allFin [a0, a1, a2, a3, a4, a5, a6, a7, a8] = true) (κ : K4) : s_q104 N 3 3 [a0, a1, a2, a3, a4, a5, a6, a7, a8] κ = selR N a0 a1 a2 a3 a4 a5 a6 a7 a8 (fadd (fadd a0 a4) a8) κ := by
  unfold s_q104 G_q104
  rw [law_ref_Check 3 3 _ (small_of hN (Nat.le_of_ble_eq_true rfl)), nine_chk h]
  rw [show (((3 : Int) != 3) == false) = true from rfl, cond_true, show ((3 : Int) != 3) = false from rfl]
  unfold s_q148 G_q148
  rw [cond_false]
  refine (law_First2 0 0 (by omega) _).trans ?_
  rw [if_neg (by decide), show ((0 : Int) != 0) = false from rfl, cond_false]
  kernel_rfl
theorem law_From {N : Nat} (hN : 1000 <= N) {a0 a1 a2 a3 a4 a5 a6 a7 a8 : Fl} (h : allFin [a0, a1, a2, a3, a4, a5, a6, a7, a8] = true) : Both4 (s_q88 N 3 3 [a0, a1, a2, a3, a4, a5, a6, a7, a8]) (s_q104 N 3 3 [a0, a1, a2, a3, a4, a5, a6, a7, a8]) := by
  generalize ht : (fadd (fadd a0 a4) a8) = t
  have q := from_q hN h ht
  have r := from_r hN h
  rw [ht] at r
  simp only [selR_eq] at r
  cases hf : finF t with
  | false =>
    refine both_err (n := 5) (fun κ => ?_) (fun κ => ?_)
    · rw [q, hf]; rfl
    · rw [r]
      simp only [jr_nf hN _ hf]
      cases (fge t a0 && (fge t a4 && fge t a8)) <;> cases (fge a0 a4 && fge a0 a8) <;> cases fge a4 a8 <;> rfl
  | true =>
    have f0 : finF a0 = true := allN_iff.1 h 0 (by show 0 < 9; decide)
    have f4 : finF a4 = true := allN_iff.1 h 4 (by show 4 < 9; decide)
    have f8 : finF a8 = true := allN_iff.1 h 8 (by show 8 < 9; decide)
    obtain ⟨m1, v1, -⟩ := fmm_vl hf f0
    obtain ⟨m2, v2, -⟩ := fmm_vl m1 f4
    obtain ⟨m3, v3, -⟩ := fmm_vl m2 f8
    simp only [feq_vl m3 hf, feq_vl m3 f0, feq_vl m3 f4, hf, Bool.not_true, cond_false, v3, v2, v1] at q
    simp only [fge_vl hf f0, fge_vl hf f4, fge_vl hf f8, fge_vl f0 f4, fge_vl f0 f8, fge_vl f4 f8] at r
    by_cases p1 : max (max (max (vl t) (vl a0)) (vl a4)) (vl a8) = vl t
    · have r1 : (decide (vl a0 <= vl t) && (decide (vl a4 <= vl t) && decide (vl a8 <= vl t))) = true := by
        rw [decide_eq_true (by omega), decide_eq_true (by omega), decide_eq_true (by omega)]; rfl
      simp only [decide_eq_true p1, cond_true] at q
      simp only [r1, cond_true] at r
      obtain ⟨x, y, z, w, n, hs, f, g⟩ := both_j hN [a0, a1, a2, a3, a4, a5, a6, a7, a8] hf (FW_fadd _ _) (FW_fsub _ _) (FW_fsub _ _) (FW_fsub _ _)
      exact ⟨x, y, z, w, n, hs, fun κ => (q κ).trans (f κ), fun κ => (r κ).trans (g κ)⟩
    · have r1 : (decide (vl a0 <= vl t) && (decide (vl a4 <= vl t) && decide (vl a8 <= vl t))) = false := by
        rw [Bool.eq_false_iff]
        intro hc
        simp only [Bool.and_eq_true, decide_eq_true_eq] at hc
        omega
      simp only [decide_eq_false p1, cond_false] at q
      simp only [r1, cond_false] at r
      by_cases p2 : max (max (max (vl t) (vl a0)) (vl a4)) (vl a8) = vl a0
      · have r2 : (decide (vl a4 <= vl a0) && decide (vl a8 <= vl a0)) = true := by
          rw [decide_eq_true (by omega), decide_eq_true (by omega)]; rfl
        simp only [decide_eq_true p2, cond_true] at q
        simp only [r2, cond_true] at r
        obtain ⟨x, y, z, w, n, hs, f, g⟩ := both_j hN [a0, a1, a2, a3, a4, a5, a6, a7, a8] hf (FW_fsub _ _) (FW_fsub _ _) (FW_fadd _ _) (FW_fadd _ _)
        exact ⟨x, y, z, w, n, hs, fun κ => (q κ).trans (f κ), fun κ => (r κ).trans (g κ)⟩
      · have r2 : (decide (vl a4 <= vl a0) && decide (vl a8 <= vl a0)) = false := by
          rw [Bool.eq_false_iff]
          intro hc
          simp only [Bool.and_eq_true, decide_eq_true_eq] at hc
          omega
        simp only [decide_eq_false p2, cond_false] at q
        simp only [r2, cond_false] at r
        by_cases p3 : max (max (max (vl t) (vl a0)) (vl a4)) (vl a8) = vl a4
        · have r3 : decide (vl a8 <= vl a4) = true := decide_eq_true (by omega)
          simp only [decide_eq_true p3, cond_true] at q
          simp only [r3, cond_true] at r
          obtain ⟨x, y, z, w, n, hs, f, g⟩ := both_j hN [a0, a1, a2, a3, a4, a5, a6, a7, a8] hf (FW_fsub _ _) (FW_fadd _ _) (FW_fsub _ _) (FW_fadd _ _)
          exact ⟨x, y, z, w, n, hs, fun κ => (q κ).trans (f κ), fun κ => (r κ).trans (g κ)⟩
        · have r3 : decide (vl a8 <= vl a4) = false := decide_eq_false (by omega)
          simp only [decide_eq_false p3, cond_false] at q
          simp only [r3, cond_false] at r
          obtain ⟨x, y, z, w, n, hs, f, g⟩ := both_j hN [a0, a1, a2, a3, a4, a5, a6, a7, a8] hf (FW_fsub _ _) (FW_fadd _ _) (FW_fadd _ _) (FW_fadd _ _)
          exact ⟨x, y, z, w, n, hs, fun κ => (q κ).trans (f κ), fun κ => (r κ).trans (g κ)⟩


theorem nine {xs : List Fl} (h : xs.length = 9) : ∃ a0 a1 a2 a3 a4 a5 a6 a7 a8, xs = [a0, a1, a2, a3, a4, a5, a6, a7, a8] := by
  match xs, h with
  | [a0, a1, a2, a3, a4, a5, a6, a7, a8], _ => exact ⟨a0, a1, a2, a3, a4, a5, a6, a7, a8, rfl⟩
theorem law_From_any {N : Nat} (hN : 1000 <= N) (r c : Int) (xs : List Fl) (hl : Small N xs.length) : Both4 (s_q88 N r c xs) (s_q104 N r c xs) := by
  have e1 : ∀ κ, s_q88 N r c xs κ = s_q75 N r c xs (fun nr => cond (nr != 0) (κ (some 0) (some 0) (some 0) (some 0) nr) (cond ((r != 3) == false) (cond (c != 3) (κ (some 0) (some 0) (some 0) (some 0) 3) (s_q88 N r c xs κ)) (κ (some 0) (some 0) (some 0) (some 0) 3))) := by
    intro κ
    unfold s_q88 G_q88
    rw [law_Check r c xs hl, law_Check r c xs hl]
    cases (chk r c xs != 0) <;> cases ((r != 3) == false) <;> cases (c != 3) <;> rfl
  by_cases h0 : chk r c xs = 0
  · by_cases hr : r = 3
    · by_cases hc : c = 3
      · subst hr; subst hc
        obtain ⟨-, h2, h3⟩ := chk_zero.1 h0
        obtain ⟨a0, a1, a2, a3, a4, a5, a6, a7, a8, rfl⟩ := nine (xs := xs) (by omega)
        exact law_From hN h3
      · have b3 : (c != 3) = true := by rw [bne_iff_ne]; exact hc
        refine both_err (n := 3) (fun κ => ?_) (fun κ => ?_)
        · rw [e1, law_Check r c xs hl, h0, b3]
          cases ((r != 3) == false) <;> rfl
        · unfold s_q104 G_q104
          rw [law_ref_Check r c xs hl, h0, b3]
          subst hr
          rw [show (((3 : Int) != 3) == false) = true from rfl, cond_true]
          unfold s_q148 G_q148
          rw [cond_true]
          refine (law_First2 0 3 (by omega) _).trans ?_
          rw [if_neg (by decide)]
          rfl
    · have b2 : ((r != 3) == false) = false := by
        have : (r != 3) = true := by rw [bne_iff_ne]; exact hr
        rw [this]; rfl
      refine both_err (n := 3) (fun κ => ?_) (fun κ => ?_)
      · rw [e1, law_Check r c xs hl, h0, b2]
        rfl
      · unfold s_q104 G_q104
        rw [law_ref_Check r c xs hl, h0, b2, cond_false]
        unfold s_q148 G_q148
        rw [cond_true]
        refine (law_First2 0 3 (by omega) _).trans ?_
        rw [if_neg (by decide)]
        rfl
  · have b1 : (chk r c xs != 0) = true := by rw [bne_iff_ne]; exact h0
    refine both_err (n := chk r c xs) (fun κ => ?_) (fun κ => ?_)
    · rw [e1, law_Check r c xs hl, b1]; rfl
    · unfold s_q104 G_q104
      rw [law_ref_Check r c xs hl]
      unfold s_q148 G_q148
      cases ((r != 3) == false)
      · rw [cond_false, cond_true]
        refine (law_First2 _ 3 (by omega) _).trans ?_
        rw [if_pos h0, b1, cond_true]
      · rw [cond_true]
        cases (c != 3)
        · rw [cond_false]
          refine (law_First2 _ 0 (by omega) _).trans ?_
          rw [if_pos h0, b1, cond_true]
        · rw [cond_true]
          refine (law_First2 _ 3 (by omega) _).trans ?_
          rw [if_pos h0, b1, cond_true]

def matE (a b c d : Fl) : List Fl := [(fsub (some 4607182418800017408) (fmul (some 4611686018427387904) (fadd (fmul c c) (fmul d d)))), (fmul (some 4611686018427387904) (fsub (fmul b c) (fmul a d))), (fmul (some 4611686018427387904) (fadd (fmul b d) (fmul a c))), (fmul (some 4611686018427387904) (fadd (fmul b c) (fmul a d))), (fsub (some 4607182418800017408) (fmul (some 4611686018427387904) (fadd (fmul b b) (fmul d d)))), (fmul (some 4611686018427387904) (fsub (fmul c d) (fmul a b))), (fmul (some 4611686018427387904) (fsub (fmul b d) (fmul a c))), (fmul (some 4611686018427387904) (fadd (fmul c d) (fmul a b))), (fsub (some 4607182418800017408) (fmul (some 4611686018427387904) (fadd (fmul b b) (fmul c c))))]
theorem law_Matrix {N : Nat} (hN : 1000 <= N) (a b c d : Fl) (k0 : Int -> Int -> Int -> Bool) (k1 : Int -> Int -> Int -> List Fl -> Bool) : s_q68 N a b c d k0 k1 = cond (allFin [a, b, c, d]) (cond (allFin (matE a b c d)) (k1 3 3 0 (matE a b c d)) (k0 0 0 5)) (k0 0 0 4) := by
  unfold s_q68 G_q68
  rw [law_good hN]
  cases allFin [a, b, c, d]
  · rfl
  · rw [Bool.not_true, cond_false, cond_true]
    refine (law_q21 (matE a b c d) (small_of hN (Nat.le_of_ble_eq_true rfl)) _).trans ?_
    cases allFin (matE a b c d) <;> rfl
theorem law_ref_Matrix {N : Nat} (hN : 1000 <= N) (a b c d : Fl) (k0 : Int -> Int -> Int -> Bool) (k1 : Int -> Int -> List Fl -> Int -> Bool) : s_q83 N a b c d k0 k1 = cond (allFin [a, b, c, d]) (cond (allFin (matE a b c d)) (k1 3 3 (matE a b c d) 0) (k0 0 0 5)) (k0 0 0 4) := by
  unfold s_q83 G_q83
  rw [law_Finite4 hN]
  unfold s_q57 G_q57
  cases allFin [a, b, c, d]
  · rfl
  · rw [Bool.not_true, cond_false, cond_true]
    dsimp only
    rw [show ((0 : Int) != 0) = false from rfl, cond_false]
    show s_q50 N (matE a b c d) _ = _
    rw [law_AllFinite (matE a b c d) (small_of hN (Nat.le_of_ble_eq_true rfl))]
    cases allFin (matE a b c d) <;> rfl
theorem law_SameL {N : Nat} (hN : 1000 <= N) (xs : List Fl) (hl : xs.length <= 48) (k : Bool -> Bool) : s_q52 N xs xs k = k true := by
  unfold s_q52 G_q52
  rw [show (((xs.length : Nat) : Int) != ((xs.length : Nat) : Int)) = false by rw [bne_self_eq_false], cond_false]
  refine iterG_eq0 (fun i => ((i : Nat) : Int)) xs.length rfl (by omega) (fun i hi K => ?_) (fun K => ?_)
  · simp only [st_q209, Int.toNat_natCast]
    rw [dec_true (by omega), cond_true, and_true_of (inR_of (by omega) (by omega)), and_true_of (inR_of (by omega) (by omega))]
    unfold s_q131 G_q131
    rw [law_Bits, law_Bits, beq_self_eq_true]
    dsimp only
    rw [Bool.not_true, cond_false, and_true_of (fits_ok (by omega) (by omega))]
    rfl
  · simp only [st_q209]
    rw [dec_false (by omega), cond_false]
theorem law_QuatMatrices {N : Nat} (hN : 1000 <= N) (x0 x1 x2 x3 r c : Int) (m : List Int) (hl : Small N m.length) (hb : ∀ n ∈ m, 0 <= n /\ n <= 18446744073709551615) (k : Bool -> Bool) : s_q37 N x0 x1 x2 x3 r c m k = k true := by
  have hv : ∀ (x y z w : Int) (k : Fl -> Fl -> Fl -> Fl -> Bool), s_q15 N x y z w k = k (canon x.toNat) (canon y.toNat) (canon z.toNat) (canon w.toNat) := fun _ _ _ _ _ => rfl
  have hm : ∀ k : List Fl -> Bool, s_q24 N r c m k = k (of64 m) := fun k => law_Of64 m hl k
  have hl' : Small N (of64 m).length := by rw [of64_length]; exact hl
  obtain ⟨a, b, d, e, n, hs, f, g⟩ := law_From_any hN r c (of64 m) hl'
  have j0 : J_q166 N (s_q15 N) (s_q68 N) (s_q83 N) (s_q52 N) (s_q20 N) (s_q24 N) (s_q88 N) (s_q104 N) (s_q25 N) x0 x1 x2 x3 r c m k = k true := by
    unfold J_q166
    rw [hm, f, hm, g, law_quats N hs]
  have j1 : J_q167 N (s_q15 N) (s_q68 N) (s_q83 N) (s_q52 N) (s_q20 N) (s_q24 N) (s_q88 N) (s_q104 N) (s_q25 N) x0 x1 x2 x3 r c m k = k true := by
    unfold J_q167
    rw [hm, f, hm, g, law_quats N hs]
  unfold s_q37 G_q37
  simp only [hv, law_Matrix hN, law_ref_Matrix hN, j0, j1, law_awake hN]
  cases allFin [canon x0.toNat, canon x1.toNat, canon x2.toNat, canon x3.toNat]
  · simp only [cond_false]
    rw [law_SameL hN [] (Nat.zero_le _)]
    rfl
  · simp only [cond_true]
    cases allFin (matE (canon x0.toNat) (canon x1.toNat) (canon x2.toNat) (canon x3.toNat))
    · simp only [cond_false]
      rw [law_SameL hN [] (Nat.zero_le _)]
      rfl
    · simp only [cond_true]
      rw [law_SameL hN _ (Nat.le_of_ble_eq_true rfl)]
      rfl

end Go.Proofs.YtccocdgimamdhaaGreatDoor
end
