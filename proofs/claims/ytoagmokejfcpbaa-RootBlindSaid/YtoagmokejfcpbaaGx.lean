/-
  The program's functions without a body, and those that look at bits, tied to their meanings.
  Conditions: none.
-/
import Derived.Test.YtoagmokejfcpbaaGs
import Derived.Test.YtoagmokejfcpbaaMachY
import Derived.Test.YtoagmokejfcpbaaP2
namespace Go.Proofs.Ytoagmokejfcpbaa
open Go Go.Mach Go.Proofs
set_option maxRecDepth 20000

theorem g_math_Float64bits (N_ : Nat) : GoodF Try.prog 38 (F_math_Float64bits (s_math_Float64bits N_)) :=
  good_mono (good_bits_fb (fn := Try.f38) (by kernel_rfl) (by kernel_rfl) (by kernel_rfl) (by kernel_rfl) (by kernel_rfl)) fun a k h => by
    unfold sp_math_Float64bits at h; split at h
    · exact h
    · cases h
theorem g_math_Float64bits_2 (N_ : Nat) : GoodF Try.prog 38 (F_math_Float64bits_2 (s_math_Float64bits_2 N_)) :=
  good_mono (good_bits (fn := Try.f38) (by kernel_rfl) (by kernel_rfl) (by kernel_rfl) (by kernel_rfl) (by kernel_rfl)) fun a k h => by
    unfold sp_math_Float64bits_2 s_math_Float64bits_2 at h; split at h
    · split at h
      · exact h
      · cases h
    · cases h
theorem g_math_Float64frombits (N_ : Nat) : GoodF Try.prog 30 (F_math_Float64frombits (s_math_Float64frombits N_)) :=
  good_mono (good_frombits (fn := Try.f30) (by kernel_rfl) (by kernel_rfl) (by kernel_rfl) (by kernel_rfl) (by kernel_rfl)) fun a k h => by
    unfold sp_math_Float64frombits at h; split at h
    · exact h
    · cases h
theorem g_math_sqrt (N_ : Nat) : GoodF Try.prog 70 (F_math_sqrt (s_math_sqrt N_)) :=
  good_mono (good_sqrt (fn := Try.f70) (by kernel_rfl) (by kernel_rfl) (by kernel_rfl) (by kernel_rfl) (by kernel_rfl) sqrt_nan) fun a k h => by
    unfold sp_math_sqrt at h; split at h
    · exact h
    · cases h
theorem x_anatomy_Class_2 (N_ : Nat) (h : GoodF Try.prog 59 (F_anatomy_Class (s_anatomy_Class N_))) : GoodF Try.prog 59 (F_anatomy_Class_2 (s_anatomy_Class_2 N_)) := by
  have q : ∀ b, clsF (cn (some b)) = clsF (some b) := by
    intro b; by_cases hb : isNaN b = true <;> simp [cn, clsF, cls, hb]
  refine good_lift1 (sp_anatomy_Class_2 (s_anatomy_Class_2 N_)) (fun x => .int .i64 (clsF x)) h rfl (fun a k hk => ?_) (fun b k => ?_) (fun b => by rw [q])
  · unfold sp_anatomy_Class_2 at hk; split at hk
    · exact ⟨_, rfl, hk⟩
    · cases hk
  · have e : F_anatomy_Class (s_anatomy_Class N_) [.val (.float .f64 b)] [] k = s_anatomy_Class N_ b (fun r0 => k (.int .i64 r0) []) := by kernel_rfl
    rw [e, law_Class, q]; rfl
theorem x_anatomy_Same_2 (N_ : Nat) (h : GoodF Try.prog 60 (F_anatomy_Same (s_anatomy_Same N_))) : GoodF Try.prog 60 (F_anatomy_Same_2 (s_anatomy_Same_2 N_)) := by
  have q : ∀ x, cn (cn x) = cn x := by
    intro x
    cases x with
    | none => rfl
    | some b => by_cases hb : isNaN b = true <;> simp [cn, hb]
  refine good_lift2 (sp_anatomy_Same_2 (s_anatomy_Same_2 N_)) (fun x y => .bool (decide (cn x = cn y))) h rfl (fun a k hk => ?_) (fun b c k => ?_) (fun x y => by simp only [q])
  · unfold sp_anatomy_Same_2 at hk; split at hk
    · exact ⟨_, _, rfl, hk⟩
    · cases hk
  · have e : F_anatomy_Same (s_anatomy_Same N_) [.val (.float .f64 b), .val (.float .f64 c)] [] k = s_anatomy_Same N_ b c (fun r0 => k (.bool r0) []) := by kernel_rfl
    rw [e, law_Same]; simp only [q]
theorem x_math_Abs_2 (N_ : Nat) (h : GoodF Try.prog 31 (F_math_Abs (s_math_Abs N_))) : GoodF Try.prog 31 (F_math_Abs_2 (s_math_Abs_2 N_)) := by
  have q : ∀ b, absF (cn (some b)) = absF (some b) := by
    intro b
    by_cases hb : isNaN b = true
    · have hb' := (isNaN_iff b).1 hb
      have : isNaN (b % 9223372036854775808) = true := (isNaN_iff _).2 (by omega)
      simp [cn, absF, canon, hb, this]
    · simp [cn, hb]
  refine good_lift1 (sp_math_Abs_2 (s_math_Abs_2 N_)) (fun x => .flt (absF x)) h rfl (fun a k hk => ?_) (fun b k => ?_) (fun b => by rw [q])
  · unfold sp_math_Abs_2 at hk; split at hk
    · exact ⟨_, rfl, hk⟩
    · cases hk
  · have e : F_math_Abs (s_math_Abs N_) [.val (.float .f64 b)] [] k = s_math_Abs N_ b (fun r0 => k (.flt r0) []) := by kernel_rfl
    rw [e, law_Abs, q]

end Go.Proofs.Ytoagmokejfcpbaa
