/-
  PURE: laws of the seat's functions, taken over from another seat of mine.
  Conditions: none.
-/
import Derived.Test.YtccocdgimamdhaaGreatDoorR1
import Derived.Test.YtccocdgimamdhaaGreatDoorR0
namespace Go.Proofs.YtccocdgimamdhaaGreatDoor
open Go Go.Mach Ieee
set_option linter.unusedVariables false

set_option linter.unusedVariables false

def mostF (xs : List Fl) : Nat -> Fl
  | 0 => some 0
  | n + 1 => fmm true (mostF xs n) (absF (xs.getD n none))
def FinW (xs : List Fl) : Prop := ∀ i, i < xs.length -> finF (xs.getD i none) = true /\ FW (xs.getD i none)
theorem most_fin {xs : List Fl} (h : FinW xs) : ∀ n, n <= xs.length -> finF (mostF xs n) = true /\ FW (mostF xs n) := by
  intro n
  induction n with
  | zero => intro _; exact ⟨(by decide : finF (some 0) = true), FW_zero⟩
  | succ n ih =>
    intro hn
    obtain ⟨h1, h2⟩ := ih (by omega)
    obtain ⟨h3, h4⟩ := h n (by omega)
    have h5 := absF_fin h3 h4
    exact ⟨(fmm_vl h1 h5).1, fmm_FW h1 h5 h2 FW_absF⟩
theorem law_Power {N : Nat} {xs : List Fl} (hN : 1000 <= N) (hl : xs.length <= 48) (k : Int -> Bool -> Bool) :
    sj155 N xs k = cond (feq (mostF xs xs.length) (some 0)) (k 0 false) (sj136 N (mostF xs xs.length) (fun _ nr => fits .i64 (nr - 1) && k (nr - 1) true)) := by
  unfold sj155 Gj155
  refine iterG_eq0 (fun n => (mostF xs n, (n : Int))) xs.length rfl (by omega) (fun i hi K => ?_) (fun K => ?_)
  · simp only [st_z10_Power_0, s_m_Abs, Int.toNat_natCast]
    rw [dec_true (by omega), cond_true, and_true_of (inR_of (by omega) (by omega)), and_true_of (fits_ok (by omega) (by omega))]
    rfl
  · simp only [st_z10_Power_0]
    rw [dec_false (by omega), cond_false]

theorem finW_of {xs : List Fl} (hw : ∀ i, i < xs.length -> FW (xs.getD i none)) (ha : allFin xs = true) : FinW xs :=
  fun i hi => ⟨allN_iff.1 ha i hi, hw i hi⟩

end Go.Proofs.YtccocdgimamdhaaGreatDoor
