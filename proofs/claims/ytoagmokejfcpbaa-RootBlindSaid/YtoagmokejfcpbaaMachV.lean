/-
  THE MACHINE, twenty-second part: laws for the printed meanings: obligations, loops.
  Conditions: none.
-/
import Derived.Test.YtoagmokejfcpbaaMachT
namespace Go.Mach

theorem inR_of {i : Int} {n : Nat} (h1 : 0 ≤ i) (h2 : i < n) : inR i n = true := by unfold inR; simp; omega
theorem fits64_iff (n : Int) : fits .i64 n = true ↔ -9223372036854775808 ≤ n ∧ n ≤ 9223372036854775807 := by
  unfold fits
  have e1 : IntKind.min .i64 = -9223372036854775808 := by decide
  have e2 : IntKind.max .i64 = 9223372036854775807 := by decide
  simp [e1, e2]
theorem mkOk_iff (b : Nat) (l c : Int) : mkOk b l c = true ↔ 0 ≤ l ∧ l ≤ c ∧ c ≤ 9223372036854775807 ∧ (b : Int) * c ≤ 140737488355328 := by unfold mkOk; simp
theorem and_of {a b : Bool} (h1 : a = true) (h2 : b = true) : (a && b) = true := by simp [h1, h2]
theorem and_eq_of {a b c : Bool} (h1 : a = true) (h2 : b = c) : (a && b) = c := by simp [h1, h2]

/-- a loop whose rounds are known: what it comes to -/
theorem iterG_eq {σ : Type} {step : σ → (σ → Bool) → Bool} (C : Nat → σ) (n : Nat) {N : Nat} (hn : n < N) {out : Bool} (hs : ∀ i, i < n → ∀ K : σ → Bool, step (C i) K = K (C (i + 1))) (hx : ∀ K, step (C n) K = out) : iterG N step (C 0) = out := by
  have : ∀ m, m ≤ n → ∀ N, m < N → iterG N step (C (n - m)) = out := by
    intro m
    induction m with
    | zero =>
      intro _ N hN
      cases N with
      | zero => omega
      | succ N => exact hx _
    | succ m ih =>
      intro hm N hN
      cases N with
      | zero => omega
      | succ N =>
        show step (C (n - (m + 1))) (iterG N step) = out
        rw [hs (n - (m + 1)) (by omega), show n - (m + 1) + 1 = n - m by omega]
        exact ih (by omega) N (by omega)
  simpa using this n (Nat.le_refl _) N hn

end Go.Mach
