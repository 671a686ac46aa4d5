/-
  THE MACHINE, twenty-fourth part: what looks at bits, for floats up to the NaN's payload; loops that end early.
  Conditions: none.
-/
import Derived.Test.YtoagmokejfcpbaaMachW
namespace Go.Mach

def clsF : Fl → Int
  | some b => cls b
  | none => 1
/-- bits up to the NaN's payload -/
def cn : Fl → Fl
  | some b => if isNaN b then none else some b
  | none => none
def absF : Fl → Fl
  | some b => canon (b % 9223372036854775808)
  | none => none

theorem clsF_fin (x : Fl) : (decide (clsF x = 1) || decide (clsF x = 2)) = !finF x := by
  cases x with
  | none => rfl
  | some b => exact cls_fin b
theorem clsF_lo (x : Fl) : 1 ≤ clsF x := by
  cases x with
  | none => decide
  | some b => show 1 ≤ cls b; unfold cls; split <;> (try split) <;> (try split) <;> (try split) <;> decide

theorem fits_ok {n : Int} (h1 : -9223372036854775808 ≤ n) (h2 : n ≤ 9223372036854775807) : fits .i64 n = true := (fits64_iff n).2 ⟨h1, h2⟩
theorem mkOk_ok {b : Nat} {l c : Int} (h0 : 0 ≤ l) (h1 : l ≤ c) (h2 : c ≤ 9223372036854775807) (h3 : (b : Int) * c ≤ 140737488355328) : mkOk b l c = true := (mkOk_iff b l c).2 ⟨h0, h1, h2, h3⟩
theorem dec_true {p : Prop} [Decidable p] (h : p) : decide p = true := by simp [h]
theorem dec_false {p : Prop} [Decidable p] (h : ¬ p) : decide p = false := by simp [h]

/-- do all of them hold? -/
def allN (p : Nat → Bool) : Nat → Bool
  | 0 => true
  | n + 1 => allN p n && p n
theorem allN_iff {p : Nat → Bool} : ∀ {n : Nat}, allN p n = true ↔ ∀ i, i < n → p i = true
  | 0 => by simp [allN]
  | n + 1 => by
    rw [allN, Bool.and_eq_true, allN_iff]
    constructor
    · intro h i hi
      by_cases e : i = n
      · subst e; exact h.2
      · exact h.1 i (by omega)
    · intro h
      exact ⟨fun i hi => h i (by omega), h n (by omega)⟩
def allT (p : Nat → Bool) (n : Nat) : Nat → Bool
  | 0 => true
  | m + 1 => p (n - (m + 1)) && allT p n m
theorem allT_iff {p : Nat → Bool} {n : Nat} : ∀ {m : Nat}, m ≤ n → (allT p n m = true ↔ ∀ i, n - m ≤ i → i < n → p i = true)
  | 0, _ => by simp only [allT, true_iff]; intro i h1 h2; omega
  | m + 1, hm => by
    rw [allT, Bool.and_eq_true, allT_iff (by omega)]
    constructor
    · intro h i h1 h2
      by_cases e : i = n - (m + 1)
      · subst e; exact h.1
      · exact h.2 i (by omega) h2
    · intro h
      exact ⟨h _ (by omega) (by omega), fun i h1 h2 => h i (by omega) h2⟩
theorem allN_congr {p q : Nat → Bool} {n : Nat} (h : ∀ i, i < n → p i = q i) : allN p n = allN q n := by
  induction n with
  | zero => rfl
  | succ n ih => rw [allN, allN, ih fun i hi => h i (by omega), h n (by omega)]

/-- a loop that ends early where something does not hold -/
theorem iterG_all {σ : Type} {step : σ → (σ → Bool) → Bool} (C : Nat → σ) (p : Nat → Bool) (n : Nat) {N : Nat} (hn : n < N) {ex out : Bool}
    (hs : ∀ i, i < n → ∀ K : σ → Bool, step (C i) K = cond (p i) (K (C (i + 1))) ex) (hx : ∀ K, step (C n) K = out) : iterG N step (C 0) = cond (allN p n) out ex := by
  have key : ∀ m, m ≤ n → ∀ N, m < N → iterG N step (C (n - m)) = cond (allT p n m) out ex := by
    intro m
    induction m with
    | zero =>
      intro _ N hN
      cases N with
      | zero => omega
      | succ N => exact hx _
    | succ m ih =>
      intro hm N hN
      cases N with
      | zero => omega
      | succ N =>
        show step (C (n - (m + 1))) (iterG N step) = _
        have e : n - (m + 1) + 1 = n - m := by omega
        rw [hs (n - (m + 1)) (by omega), e, ih (by omega) N (by omega), allT]
        cases p (n - (m + 1)) <;> rfl
  have := key n (Nat.le_refl _) N hn
  rw [Nat.sub_self] at this
  rw [this]
  congr 1
  rw [Bool.eq_iff_iff, allT_iff (Nat.le_refl _), allN_iff]
  exact ⟨fun h i hi => h i (by omega) hi, fun h i _ hi => h i hi⟩

end Go.Mach
