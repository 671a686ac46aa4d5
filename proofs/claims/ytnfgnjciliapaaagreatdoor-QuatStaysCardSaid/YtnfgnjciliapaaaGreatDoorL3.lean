/-
  PURE: laws of the seat's functions, taken over from another seat of mine.
  Conditions: none.
-/
import Derived.Test.YtnfgnjciliapaaaGreatDoorL2
namespace Go.Proofs.YtnfgnjciliapaaaGreatDoor
open Go Go.Mach Ieee
set_option linter.unusedVariables false

set_option linter.unusedVariables false
set_option maxRecDepth 4000

theorem law_good2 {N : Nat} (hN : 1000 <= N) (a b c d p q r s : Fl) (k : Bool -> Bool) : sQ59 N a b c d p q r s k = k (allFin [a, b, c, d] && allFin [p, q, r, s]) := by
  unfold sQ59 GQ59
  rw [lawQ12 _ (small_of hN (Nat.le_of_ble_eq_true rfl))]
  cases allFin [a, b, c, d]
  · rfl
  · rw [Bool.not_true, cond_false, lawQ12 _ (small_of hN (Nat.le_of_ble_eq_true rfl))]
    cases allFin [p, q, r, s] <;> rfl
theorem allFin_one {N : Nat} (hN : 1000 <= N) (x : Fl) (k : Bool -> Bool) : sQ12 N [x] k = k (finF x) := by
  rw [lawQ12 [x] (small_of hN (Nat.le_of_ble_eq_true rfl))]
  have : allFin [x] = finF x := by
    show (allN _ 1) = _
    rw [Bool.eq_iff_iff, allN_iff]
    constructor
    · intro h; exact h 0 (by decide)
    · intro h i hi
      have : i = 0 := by omega
      subst this; exact h
  rw [this]
theorem fin4 {a b c d : Fl} (h : allFin [a, b, c, d] = true) : finF a = true /\ finF b = true /\ finF c = true /\ finF d = true := by
  have h := allN_iff.1 h
  exact ⟨h 0 (Nat.le_of_ble_eq_true rfl), h 1 (Nat.le_of_ble_eq_true rfl), h 2 (Nat.le_of_ble_eq_true rfl), h 3 (Nat.le_of_ble_eq_true rfl)⟩
def dotQ (a b c d p q r s : Fl) : Fl := fadd (fadd (fadd (fmul a p) (fmul b q)) (fmul c r)) (fmul d s)
theorem law_Dot {N : Nat} (hN : 1000 <= N) (a b c d p q r s : Fl) (κ : Fl -> Int -> Bool) : sQ157 N a b c d p q r s κ = cond (allFin [a, b, c, d] && allFin [p, q, r, s]) (cond (finF (dotQ a b c d p q r s)) (κ (dotQ a b c d p q r s) 0) (κ (some 0) 5)) (κ (some 0) 4) := by
  unfold sQ157 GQ157
  rw [law_good2 hN]
  cases (allFin [a, b, c, d] && allFin [p, q, r, s])
  · rfl
  · rw [Bool.not_true, cond_false, allFin_one hN, cond_true]
    show cond (!finF (dotQ a b c d p q r s)) _ _ = _
    cases finF (dotQ a b c d p q r s) <;> rfl
def mulK (a b c d p q r s : Fl) (κ : K4) : Bool := κ (fsub (fsub (fsub (fmul a p) (fmul b q)) (fmul c r)) (fmul d s)) (fsub (fadd (fadd (fmul a q) (fmul b p)) (fmul c s)) (fmul d r)) (fadd (fadd (fsub (fmul a r) (fmul b s)) (fmul c p)) (fmul d q)) (fadd (fsub (fadd (fmul a s) (fmul b r)) (fmul c q)) (fmul d p)) 0
set_option linter.unusedVariables false
set_option maxRecDepth 4000

def jq (N : Nat) (a b c d : Fl) (κ : K4) : Bool := cond (!allFin [a, b, c, d]) (κ (some 0) (some 0) (some 0) (some 0) 5) (sQ13 N a b c d κ)
theorem jq_eq {N : Nat} (hN : 1000 <= N) (m0 m1 : Int) (m2 : List Fl) (a b c d : Fl) (κ : K4) : JQ183 N (sQ76 N) (sQ30 N) (sQ12 N) (sQ72 N) (sQ13 N) m0 m1 m2 a b c d κ = jq N a b c d κ := by
  unfold JQ183 jq
  rw [law_told hN]
  cases allFin [a, b, c, d] <;> rfl
theorem nine_chk {a0 a1 a2 a3 a4 a5 a6 a7 a8 : Fl} (h : allFin [a0, a1, a2, a3, a4, a5, a6, a7, a8] = true) : chk 3 3 [a0, a1, a2, a3, a4, a5, a6, a7, a8] = 0 := chk_zero.2 ⟨by decide, rfl, h⟩
theorem rd00 (N : Nat) (a0 a1 a2 a3 a4 a5 a6 a7 a8 : Fl) (κ : Fl -> Bool) : sQ30 N 0 0 3 3 [a0, a1, a2, a3, a4, a5, a6, a7, a8] κ = κ a0 := by kernel_rfl
theorem rd11 (N : Nat) (a0 a1 a2 a3 a4 a5 a6 a7 a8 : Fl) (κ : Fl -> Bool) : sQ30 N 1 1 3 3 [a0, a1, a2, a3, a4, a5, a6, a7, a8] κ = κ a4 := by kernel_rfl
theorem rd22 (N : Nat) (a0 a1 a2 a3 a4 a5 a6 a7 a8 : Fl) (κ : Fl -> Bool) : sQ30 N 2 2 3 3 [a0, a1, a2, a3, a4, a5, a6, a7, a8] κ = κ a8 := by kernel_rfl
theorem rd21 (N : Nat) (a0 a1 a2 a3 a4 a5 a6 a7 a8 : Fl) (κ : Fl -> Bool) : sQ30 N 2 1 3 3 [a0, a1, a2, a3, a4, a5, a6, a7, a8] κ = κ a7 := by kernel_rfl
theorem rd12 (N : Nat) (a0 a1 a2 a3 a4 a5 a6 a7 a8 : Fl) (κ : Fl -> Bool) : sQ30 N 1 2 3 3 [a0, a1, a2, a3, a4, a5, a6, a7, a8] κ = κ a5 := by kernel_rfl
theorem rd02 (N : Nat) (a0 a1 a2 a3 a4 a5 a6 a7 a8 : Fl) (κ : Fl -> Bool) : sQ30 N 0 2 3 3 [a0, a1, a2, a3, a4, a5, a6, a7, a8] κ = κ a2 := by kernel_rfl
theorem rd20 (N : Nat) (a0 a1 a2 a3 a4 a5 a6 a7 a8 : Fl) (κ : Fl -> Bool) : sQ30 N 2 0 3 3 [a0, a1, a2, a3, a4, a5, a6, a7, a8] κ = κ a6 := by kernel_rfl
theorem rd10 (N : Nat) (a0 a1 a2 a3 a4 a5 a6 a7 a8 : Fl) (κ : Fl -> Bool) : sQ30 N 1 0 3 3 [a0, a1, a2, a3, a4, a5, a6, a7, a8] κ = κ a3 := by kernel_rfl
theorem rd01 (N : Nat) (a0 a1 a2 a3 a4 a5 a6 a7 a8 : Fl) (κ : Fl -> Bool) : sQ30 N 0 1 3 3 [a0, a1, a2, a3, a4, a5, a6, a7, a8] κ = κ a1 := by kernel_rfl
theorem from_q {N : Nat} (hN : 1000 <= N) {a0 a1 a2 a3 a4 a5 a6 a7 a8 : Fl} (h : allFin [a0, a1, a2, a3, a4, a5, a6, a7, a8] = true) {t : Fl} (ht : (fadd (fadd a0 a4) a8) = t) (κ : K4) : sQ56 N 3 3 [a0, a1, a2, a3, a4, a5, a6, a7, a8] κ = cond (!finF t) (κ (some 0) (some 0) (some 0) (some 0) 5) (cond (feq (fmm true (fmm true (fmm true t a0) a4) a8) t) (jq N (fadd (some 4607182418800017408) t) (fsub a7 a5) (fsub a2 a6) (fsub a3 a1) κ) (cond (feq (fmm true (fmm true (fmm true t a0) a4) a8) a0) (jq N (fsub a7 a5) (fsub (fsub (fadd (some 4607182418800017408) a0) a4) a8) (fadd a1 a3) (fadd a2 a6) κ) (cond (feq (fmm true (fmm true (fmm true t a0) a4) a8) a4) (jq N (fsub a2 a6) (fadd a1 a3) (fsub (fadd (fsub (some 4607182418800017408) a0) a4) a8) (fadd a5 a7) κ) (jq N (fsub a3 a1) (fadd a2 a6) (fadd a5 a7) (fadd (fsub (fsub (some 4607182418800017408) a0) a4) a8) κ)))) := by
  unfold sQ56 GQ56
  rw [law_Check 3 3 _ (small_of hN (Nat.le_of_ble_eq_true rfl)), nine_chk h]
  rw [show ((0 : Int) != 0) = false from rfl, cond_false, show (((3 : Int) != 3) == false) = true from rfl, cond_true, show ((3 : Int) != 3) = false from rfl, cond_false]
  rw [rd00, rd11, rd22, ht, allFin_one hN]
  cases finF t
  · rfl
  · rw [Bool.not_true, cond_false, cond_false]
    rw [rd21, rd12, rd02, rd20, rd10, rd01, rd01, rd10, rd02, rd20, rd12, rd21]
    simp only [jq_eq hN]
theorem nine {xs : List Fl} (h : xs.length = 9) : ∃ a0 a1 a2 a3 a4 a5 a6 a7 a8, xs = [a0, a1, a2, a3, a4, a5, a6, a7, a8] := by
  match xs, h with
  | [a0, a1, a2, a3, a4, a5, a6, a7, a8], _ => exact ⟨a0, a1, a2, a3, a4, a5, a6, a7, a8, rfl⟩
set_option linter.unusedVariables false
set_option maxRecDepth 4000

theorem fin3 {a b c : Fl} (h : allFin [a, b, c] = true) : finF a = true /\ finF b = true /\ finF c = true := by
  have h := allN_iff.1 h
  exact ⟨h 0 (Nat.le_of_ble_eq_true rfl), h 1 (Nat.le_of_ble_eq_true rfl), h 2 (Nat.le_of_ble_eq_true rfl)⟩
def crs (a b c p q r : Fl) (k : Fl -> Fl -> Fl -> Bool) : Bool := k (fsub (fmul b r) (fmul c q)) (fsub (fmul c p) (fmul a r)) (fsub (fmul a q) (fmul b p))
theorem law_cross (N : Nat) (a b c p q r : Fl) (k : Fl -> Fl -> Fl -> Bool) : sQ60 N a b c p q r k = crs a b c p q r k := rfl
theorem flt_self (x : Fl) : flt x x = false := by
  cases x with
  | none => rfl
  | some b =>
    show (Ieee.double.order b b == some .lt) = false
    cases h : isNaN b with
    | true =>
      have := order_nan_left b h
      rw [show Ieee.double.order b b = none from this]; rfl
    | false =>
      have := order_self (Ieee.double.read b) h
      show ((Ieee.double.read b).order (Ieee.double.read b) == some .lt) = false
      rw [this]; rfl
def dot3 (a b c p q r : Fl) : Fl := fadd (fadd (fmul a p) (fmul b q)) (fmul c r)
def axisK (a b c : Fl) (k : Fl -> Fl -> Fl -> Bool) : Bool :=
  cond (flt (absF b) (absF a)) (cond (flt (absF c) (absF b)) (k (some 0) (some 0) (some 4607182418800017408)) (k (some 0) (some 4607182418800017408) (some 0))) (cond (flt (absF c) (absF a)) (k (some 0) (some 0) (some 4607182418800017408)) (k (some 4607182418800017408) (some 0) (some 0)))
def zero4 (a b c d : Fl) : Bool := feq a (some 0) && (feq b (some 0) && (feq c (some 0) && feq d (some 0)))
def betw (U : Fl -> Fl -> Fl -> Fl -> Bool) (a b c p q r : Fl) : Bool :=
  crs a b c p q r fun x y z => cond (zero4 (fadd (some 4607182418800017408) (dot3 a b c p q r)) x y z) (axisK a b c fun u v w => crs a b c u v w fun x y z => U (some 0) x y z) (U (fadd (some 4607182418800017408) (dot3 a b c p q r)) x y z)
theorem betw_both {N : Nat} (hN : 1000 <= N) (a b c p q r : Fl) : ∃ x y z w, (FW x /\ FW y /\ FW z /\ FW w) /\ ∀ U : Fl -> Fl -> Fl -> Fl -> Bool, betw U a b c p q r = U x y z w := by
  unfold betw crs axisK
  dsimp only
  cases zero4 (fadd (some 4607182418800017408) (dot3 a b c p q r)) (fsub (fmul b r) (fmul c q)) (fsub (fmul c p) (fmul a r)) (fsub (fmul a q) (fmul b p))
  · exact ⟨_, _, _, _, ⟨FW_fadd _ _, FW_fsub _ _, FW_fsub _ _, FW_fsub _ _⟩, fun U => rfl⟩
  · cases flt (absF b) (absF a)
    · cases flt (absF c) (absF a)
      · exact ⟨_, _, _, _, ⟨FW_zero, FW_fsub _ _, FW_fsub _ _, FW_fsub _ _⟩, fun U => rfl⟩
      · exact ⟨_, _, _, _, ⟨FW_zero, FW_fsub _ _, FW_fsub _ _, FW_fsub _ _⟩, fun U => rfl⟩
    · cases flt (absF c) (absF b)
      · exact ⟨_, _, _, _, ⟨FW_zero, FW_fsub _ _, FW_fsub _ _, FW_fsub _ _⟩, fun U => rfl⟩
      · exact ⟨_, _, _, _, ⟨FW_zero, FW_fsub _ _, FW_fsub _ _, FW_fsub _ _⟩, fun U => rfl⟩
end Go.Proofs.YtnfgnjciliapaaaGreatDoor
