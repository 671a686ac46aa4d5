/-
  THE MACHINE, twenty-fifth part: from exact bits to floats up to the NaN's payload, for one and for two floats.
  Conditions: the exact contract answers one result for all NaNs.
-/
import Derived.Test.YtoagmokejfcpbaaMachX
import Derived.Test.YtoagmokejfcpbaaMachU
namespace Go.Mach
open Ieee

theorem sqrt_nan (b : Nat) (h : isNaN b = true) : Ieee.double.sqrt b = none := by
  obtain ⟨s, g, e⟩ := read_nan h
  simp [Ieee.Format.sqrt, e, Ieee.Datum.root]

/-- one float -/
theorem good_lift1 {P : Program} {f : Nat} {F : Fs} {sh : FnSh} (S : List Atom → (V → List Blk → Bool) → Bool) (R : Fl → V) (hF : GoodF P f F) (hsh : sh = ⟨[.flt], []⟩)
    (hS : ∀ a k, S a k = true → ∃ x, a = [.fl x] ∧ k (R x) [] = true)
    (h : ∀ b k, F [.val (.float .f64 b)] [] k = k (R (cn (some b))) []) (hR : ∀ b, R (cn (some b)) = R (some b)) : GoodF P f (mkFs sh S) := by
  subst hsh
  intro args H k hk
  unfold mkFs at hk
  split at hk
  · rename_i a ha
    obtain ⟨x, rfl, hx⟩ := hS a k hk
    obtain ⟨rfl, e2⟩ := FnSh.ext_build ha
    obtain rfl : H = [] := by simpa [FnSh.heap, buildM] using e2
    refine ⟨R x, [], ?_, hx⟩
    refine ok_fb fun vs hv hl => ?_
    match vs, hl with
    | [v], _ =>
      have hr : FRep x v := hv 0 x v rfl rfl
      obtain ⟨b, rfl⟩ := hr.float
      have hb : R x = R (cn (some b)) := by
        cases x with
        | none => obtain ⟨b', e, hb'⟩ := hr; cases e; simp [cn, hb']
        | some b' => cases hr; exact (hR _).symm
      obtain ⟨r, H', h1, h2⟩ := hF [.val (.float .f64 b)] [] (fun r H => @decide (r = R (cn (some b)) ∧ H = []) (Classical.propDecidable _)) (by rw [h]; simp)
      simp only [decide_eq_true_eq] at h2
      obtain ⟨rfl, rfl⟩ := h2
      rw [hb]
      exact h1
  · cases hk
/-- two floats -/
theorem good_lift2 {P : Program} {f : Nat} {F : Fs} {sh : FnSh} (S : List Atom → (V → List Blk → Bool) → Bool) (R : Fl → Fl → V) (hF : GoodF P f F) (hsh : sh = ⟨[.flt, .flt], []⟩)
    (hS : ∀ a k, S a k = true → ∃ x y, a = [.fl x, .fl y] ∧ k (R x y) [] = true)
    (h : ∀ b c k, F [.val (.float .f64 b), .val (.float .f64 c)] [] k = k (R (cn (some b)) (cn (some c))) []) (hR : ∀ x y, R (cn x) (cn y) = R x y) : GoodF P f (mkFs sh S) := by
  subst hsh
  intro args H k hk
  unfold mkFs at hk
  split at hk
  · rename_i a ha
    obtain ⟨x, y, rfl, hx⟩ := hS a k hk
    obtain ⟨rfl, e2⟩ := FnSh.ext_build ha
    obtain rfl : H = [] := by simpa [FnSh.heap, buildM] using e2
    refine ⟨R x y, [], ?_, hx⟩
    refine ok_fb fun vs hv hl => ?_
    match vs, hl with
    | [v, u], _ =>
      have key : ∀ {x : Fl} {v : Value}, FRep x v → ∃ b, v = .float .f64 b ∧ cn x = cn (some b) := by
        intro x v hr
        obtain ⟨b, rfl⟩ := hr.float
        refine ⟨b, rfl, ?_⟩
        cases x with
        | none => obtain ⟨b', e, hb'⟩ := hr; cases e; simp [cn, hb']
        | some b' => cases hr; rfl
      obtain ⟨b, rfl, e1⟩ := key (hv 0 x v rfl rfl)
      obtain ⟨c, rfl, e2⟩ := key (hv 1 y u rfl rfl)
      obtain ⟨r, H', h1, h2⟩ := hF [.val (.float .f64 b), .val (.float .f64 c)] [] (fun r H => @decide (r = R (cn (some b)) (cn (some c)) ∧ H = []) (Classical.propDecidable _)) (by rw [h]; simp)
      simp only [decide_eq_true_eq] at h2
      obtain ⟨rfl, rfl⟩ := h2
      rw [← hR x y, e1, e2]
      exact h1
  · cases hk

end Go.Mach
