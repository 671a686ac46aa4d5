/-
  The program's functions without a body, and those that look at bits, tied to their meanings.
  Conditions: none.
-/
import Derived.Test.YtgngdkjghdohiaaGp
import Derived.Test.YtgngdkjghdohiaaMachT
import Derived.Test.YtgngdkjghdohiaaL1
import Derived.Test.YtgngdkjghdohiaaGt0
import Derived.Test.YtgngdkjghdohiaaGt1
import Derived.Test.YtgngdkjghdohiaaGt2
import Derived.Test.YtgngdkjghdohiaaGt3
import Derived.Test.YtgngdkjghdohiaaGt4
import Derived.Test.YtgngdkjghdohiaaGt5
section
namespace Go.Proofs.Ytgngdkjghdohiaa
open Go Go.Mach Go.Proofs
set_option maxRecDepth 20000

theorem gq54 (N : Nat) : GoodF Pg 69 (Fq54 (sq54 N)) :=
  good_mono (good_bits_fb (fn := Try.f69) (by kernel_rfl) (by kernel_rfl) (by kernel_rfl) (by kernel_rfl) (by kernel_rfl)) fun a k h => by
    unfold spq54 at h; split at h
    · exact h
    · cases h
theorem gq69 (N : Nat) : GoodF Pg 69 (Fq69 (sq69 N)) :=
  good_mono (good_bits (fn := Try.f69) (by kernel_rfl) (by kernel_rfl) (by kernel_rfl) (by kernel_rfl) (by kernel_rfl)) fun a k h => by
    unfold spq69 sq69 at h; split at h
    · split at h
      · exact h
      · cases h
    · cases h
theorem gq62 (N : Nat) : GoodF Pg 26 (Fq62 (sq62 N)) :=
  good_mono (good_frombits (fn := Try.f26) (by kernel_rfl) (by kernel_rfl) (by kernel_rfl) (by kernel_rfl) (by kernel_rfl)) fun a k h => by
    unfold spq62 at h; split at h
    · exact h
    · cases h
theorem gq70 (N : Nat) : GoodF Pg 65 (Fq70 (sq70 N)) :=
  good_mono (good_sqrt (fn := Try.f65) (by kernel_rfl) (by kernel_rfl) (by kernel_rfl) (by kernel_rfl) (by kernel_rfl) sqrt_nan) fun a k h => by
    unfold spq70 at h; split at h
    · exact h
    · cases h
theorem xq48 (N : Nat) (h : GoodF Pg 55 (Fq59 (sq59 N))) : GoodF Pg 55 (Fq48 (sq48 N)) := by
  have q : ∀ b, clsF (cn (some b)) = clsF (some b) := by
    intro b; by_cases hb : isNaN b = true <;> simp [cn, clsF, cls, hb]
  refine good_lift1 (spq48 (sq48 N)) (fun x => .int .i64 (clsF x)) h rfl (fun a k hk => ?_) (fun b k => ?_) (fun b => by rw [q])
  · unfold spq48 at hk; split at hk
    · exact ⟨_, rfl, hk⟩
    · cases hk
  · have e : Fq59 (sq59 N) [.val (.float .f64 b)] [] k = sq59 N b (fun r0 => k (.int .i64 r0) []) := by kernel_rfl
    rw [e, law_Class, q]; rfl
theorem xq46 (N : Nat) (h : GoodF Pg 56 (Fq60 (sq60 N))) : GoodF Pg 56 (Fq46 (sq46 N)) := by
  have q : ∀ x, cn (cn x) = cn x := by
    intro x
    cases x with
    | none => rfl
    | some b => by_cases hb : isNaN b = true <;> simp [cn, hb]
  refine good_lift2 (spq46 (sq46 N)) (fun x y => .bool (decide (cn x = cn y))) h rfl (fun a k hk => ?_) (fun b c k => ?_) (fun x y => by simp only [q])
  · unfold spq46 at hk; split at hk
    · exact ⟨_, _, rfl, hk⟩
    · cases hk
  · have e : Fq60 (sq60 N) [.val (.float .f64 b), .val (.float .f64 c)] [] k = sq60 N b c (fun r0 => k (.bool r0) []) := by kernel_rfl
    rw [e, law_Same]; simp only [q]
end Go.Proofs.Ytgngdkjghdohiaa
end
section
namespace Go.Proofs.Ytgngdkjghdohiaa
open Go Go.Mach Go.Proofs
set_option linter.unusedVariables false

theorem g_an_of (N : Nat) : GoodF Pg 70 (F_an_of (s_an_of N)) := good_an_of N
theorem gq56 (N : Nat) : GoodF Pg 87 (Fq56 (sq56 N)) := goodq56 N
theorem gq29 (N : Nat) : GoodF Pg 89 (Fq29 (sq29 N)) := goodq29 N
theorem gq28 (N : Nat) : GoodF Pg 85 (Fq28 (sq28 N)) := goodq28 N _ _ (gq56 N) (gq29 N)
theorem gq35 (N : Nat) : GoodF Pg 88 (Fq35 (sq35 N)) := goodq35 N
theorem gq63 (N : Nat) : GoodF Pg 86 (Fq63 (sq63 N)) := goodq63 N _ _ (gq29 N) (gq35 N)
theorem gq11 (N : Nat) : GoodF Pg 71 (Fq11 (sq11 N)) := goodq11 N _ _ (gq28 N) (gq63 N)
theorem gq18 (N : Nat) : GoodF Pg 84 (Fq18 (sq18 N)) := goodq18 N _ _ _ (gq11 N) (gq56 N) (gq35 N)
theorem gq17 (N : Nat) : GoodF Pg 68 (Fq17 (sq17 N)) := goodq17 N _ (gq18 N)
theorem gq59 (N : Nat) : GoodF Pg 55 (Fq59 (sq59 N)) := goodq59 N _ _ _ (gq54 N) (g_an_of N) (gq17 N)
theorem gq60 (N : Nat) : GoodF Pg 56 (Fq60 (sq60 N)) := goodq60 N _ _ _ (gq54 N) (g_an_of N) (gq11 N)
theorem gq57 (N : Nat) : GoodF Pg 25 (Fq57 (sq57 N)) := goodq57 N _ (gq62 N)
theorem g_zk_l (N : Nat) : GoodF Pg 11 (F_zk_l (s_zk_l N)) := good_zk_l N _ (gq57 N)
theorem g_zk_f (N : Nat) : GoodF Pg 12 (F_zk_f (s_zk_f N)) := good_zk_f N _ (gq62 N)
theorem gq44 (N : Nat) : GoodF Pg 4 (Fq44 (sq44 N)) := goodq44 N _ _ (g_zk_l N) (g_zk_f N)
theorem gq65 (N : Nat) : GoodF Pg 16 (Fq65 (sq65 N)) := goodq65 N _ (g_zk_l N)
theorem g_zk_of (N : Nat) : GoodF Pg 6 (F_zk_of (s_zk_of N)) := good_zk_of N _ _ (g_zk_l N) (gq65 N)
theorem gq24 (N : Nat) : GoodF Pg 30 (Fq24 (sq24 N)) := goodq24 N
theorem gq48 (N : Nat) : GoodF Pg 55 (Fq48 (sq48 N)) := xq48 N (gq59 N)
theorem gq2 (N : Nat) : GoodF Pg 27 (Fq2 (sq2 N)) := goodq2 N _ (gq48 N)
theorem gq0 (N : Nat) : GoodF Pg 14 (Fq0 (sq0 N)) := goodq0 N _ _ (gq24 N) (gq2 N)
theorem gq27 (N : Nat) : GoodF Pg 57 (Fq27 (sq27 N)) := goodq27 N
theorem gq46 (N : Nat) : GoodF Pg 56 (Fq46 (sq46 N)) := xq46 N (gq60 N)
theorem gq12 (N : Nat) : GoodF Pg 28 (Fq12 (sq12 N)) := goodq12 N _ _ _ (gq0 N) (gq27 N) (gq46 N)
theorem g_root_above (N : Nat) : GoodF Pg 29 (F_root_above (s_root_above N)) := good_root_above N
theorem g_root_Check (N : Nat) : GoodF Pg 13 (F_root_Check (s_root_Check N)) := good_root_Check N _ _ _ _ (gq0 N) (gq2 N) (gq12 N) (g_root_above N)
theorem g_root_finite (N : Nat) : GoodF Pg 32 (F_root_finite (s_root_finite N)) := good_root_finite N
theorem g_root_checkRow (N : Nat) : GoodF Pg 31 (F_root_checkRow (s_root_checkRow N)) := good_root_checkRow N _ _ (gq2 N) (g_root_finite N)
theorem g_root_steps_see_p0 (N : Nat) : GoodF Pg 34 (F_root_steps_see_p0 (s_root_steps_see_p0 N)) := good_root_steps_see_p0 N _ (g_root_finite N)
theorem g_root_steps_dot_p0 (N : Nat) : GoodF Pg 54 (F_root_steps_dot_p0 (s_root_steps_dot_p0 N)) := good_root_steps_dot_p0 N _ (g_root_steps_see_p0 N)
theorem g_root_foresee_p0 (N : Nat) : GoodF Pg 33 (F_root_foresee_p0 (s_root_foresee_p0 N)) := good_root_foresee_p0 N _ _ (g_root_steps_dot_p0 N) (g_root_steps_see_p0 N)
theorem gq9 (N : Nat) : GoodF Pg 73 (Fq9 (sq9 N)) := goodq9 N
theorem gq25 (N : Nat) : GoodF Pg 72 (Fq25 (sq25 N)) := goodq25 N _ (gq9 N)
theorem gq5 (N : Nat) : GoodF Pg 58 (Fq5 (sq5 N)) := goodq5 N _ _ (gq24 N) (gq25 N)
theorem gq20 (N : Nat) : GoodF Pg 46 (Fq20 (sq20 N)) := goodq20 N _ (gq70 N)
theorem g_root_carlson_p0 (N : Nat) : GoodF Pg 35 (F_root_carlson_p0 (s_root_carlson_p0 N)) := good_root_carlson_p0 N _ _ _ (gq5 N) (gq20 N) (g_root_steps_see_p0 N)
theorem g_root_Update (N : Nat) : GoodF Pg 15 (F_root_Update (s_root_Update N)) := good_root_Update N _ _ _ _ _ _ _ (g_root_Check N) (g_root_checkRow N) (g_root_finite N) (g_root_foresee_p0 N) (g_root_steps_see_p0 N) (g_root_carlson_p0 N) (g_root_above N)
theorem g_root_Rows (N : Nat) : GoodF Pg 5 (F_root_Rows (s_root_Rows N)) := good_root_Rows N _ _ _ (g_root_Check N) (gq0 N) (g_root_Update N)
theorem gq42 (N : Nat) : GoodF Pg 75 (Fq42 (sq42 N)) := goodq42 N _ (gq69 N)
theorem gq51 (N : Nat) : GoodF Pg 76 (Fq51 (sq51 N)) := goodq51 N _ (gq42 N)
theorem gq33 (N : Nat) : GoodF Pg 77 (Fq33 (sq33 N)) := goodq33 N
theorem gq50 (N : Nat) : GoodF Pg 62 (Fq50 (sq50 N)) := goodq50 N _ _ (gq51 N) (gq33 N)
theorem gq1 (N : Nat) : GoodF Pg 42 (Fq1 (sq1 N)) := goodq1 N _ (gq50 N)
theorem gq4 (N : Nat) : GoodF Pg 37 (Fq4 (sq4 N)) := goodq4 N _ (gq1 N)
theorem gq53 (N : Nat) : GoodF Pg 36 (Fq53 (sq53 N)) := goodq53 N _ (gq4 N)
theorem gq52 (N : Nat) : GoodF Pg 74 (Fq52 (sq52 N)) := goodq52 N
theorem gq26 (N : Nat) : GoodF Pg 59 (Fq26 (sq26 N)) := goodq26 N _ _ (gq52 N) (gq4 N)
theorem gq55 (N : Nat) : GoodF Pg 60 (Fq55 (sq55 N)) := goodq55 N
theorem gq15 (N : Nat) : GoodF Pg 61 (Fq15 (sq15 N)) := goodq15 N _ (gq42 N)
theorem gq30 (N : Nat) : GoodF Pg 38 (Fq30 (sq30 N)) := goodq30 N _ _ _ (gq26 N) (gq55 N) (gq15 N)
theorem gq8 (N : Nat) : GoodF Pg 18 (Fq8 (sq8 N)) := goodq8 N _ _ _ (gq53 N) (gq4 N) (gq30 N)
theorem gq58 (N : Nat) : GoodF Pg 39 (Fq58 (sq58 N)) := goodq58 N _ (gq26 N)
theorem gq39 (N : Nat) : GoodF Pg 19 (Fq39 (sq39 N)) := goodq39 N _ (gq58 N)
theorem gq7 (N : Nat) : GoodF Pg 17 (Fq7 (sq7 N)) := goodq7 N
theorem gq21 (N : Nat) : GoodF Pg 47 (Fq21 (sq21 N)) := goodq21 N
theorem gq49 (N : Nat) : GoodF Pg 21 (Fq49 (sq49 N)) := goodq49 N _ (gq21 N)
theorem gq32 (N : Nat) : GoodF Pg 40 (Fq32 (sq32 N)) := goodq32 N _ _ (gq4 N) (gq1 N)
theorem gq45 (N : Nat) : GoodF Pg 41 (Fq45 (sq45 N)) := goodq45 N
theorem gq10 (N : Nat) : GoodF Pg 44 (Fq10 (sq10 N)) := goodq10 N _ (gq1 N)
theorem gq22 (N : Nat) : GoodF Pg 63 (Fq22 (sq22 N)) := goodq22 N _ (gq10 N)
theorem gq38 (N : Nat) : GoodF Pg 64 (Fq38 (sq38 N)) := goodq38 N _ (gq21 N)
theorem gq6 (N : Nat) : GoodF Pg 43 (Fq6 (sq6 N)) := goodq6 N _ _ _ (gq22 N) (gq38 N) (gq10 N)
theorem gq31 (N : Nat) : GoodF Pg 45 (Fq31 (sq31 N)) := goodq31 N
theorem gq14 (N : Nat) : GoodF Pg 48 (Fq14 (sq14 N)) := goodq14 N
theorem gq43 (N : Nat) : GoodF Pg 47 (Fq43 (sq43 N)) := goodq43 N
theorem gq3 (N : Nat) : GoodF Pg 49 (Fq3 (sq3 N)) := goodq3 N _ (gq43 N)
theorem gq23 (N : Nat) : GoodF Pg 20 (Fq23 (sq23 N)) := goodq23 N _ _ _ _ _ _ _ _ _ _ _ _ (gq8 N) (gq32 N) (gq1 N) (gq45 N) (gq7 N) (gq6 N) (gq10 N) (gq31 N) (gq20 N) (gq21 N) (gq14 N) (gq3 N)
theorem gq34 (N : Nat) : GoodF Pg 7 (Fq34 (sq34 N)) := goodq34 N _ _ _ _ _ (gq8 N) (gq39 N) (gq7 N) (gq49 N) (gq23 N)
theorem gq16 (N : Nat) : GoodF Pg 50 (Fq16 (sq16 N)) := goodq16 N _ (gq15 N)
theorem gq40 (N : Nat) : GoodF Pg 52 (Fq40 (sq40 N)) := goodq40 N _ (gq16 N)
theorem gq37 (N : Nat) : GoodF Pg 51 (Fq37 (sq37 N)) := goodq37 N _ (gq40 N)
theorem gq61 (N : Nat) : GoodF Pg 22 (Fq61 (sq61 N)) := goodq61 N _ _ (gq16 N) (gq37 N)
theorem gq47 (N : Nat) : GoodF Pg 8 (Fq47 (sq47 N)) := goodq47 N _ (gq61 N)
theorem gq19 (N : Nat) : GoodF Pg 23 (Fq19 (sq19 N)) := goodq19 N _ (gq40 N)
theorem gq13 (N : Nat) : GoodF Pg 9 (Fq13 (sq13 N)) := goodq13 N _ (gq19 N)
theorem g_root_Update_thaw (N : Nat) : GoodF Pg 15 (F_root_Update_thaw (s_root_Update_thaw N)) := good_root_Update_thaw N _ _ _ _ _ _ _ (g_root_Check N) (g_root_checkRow N) (g_root_finite N) (g_root_foresee_p0 N) (g_root_steps_see_p0 N) (g_root_carlson_p0 N) (g_root_above N)
theorem g_chol_at (N : Nat) : GoodF Pg 82 (F_chol_at (s_chol_at N)) := good_chol_at N
theorem g_chol_triangle (N : Nat) : GoodF Pg 78 (F_chol_triangle (s_chol_triangle N)) := good_chol_triangle N _ _ _ (gq0 N) (g_chol_at N) (gq12 N)
theorem g_chol_fits (N : Nat) : GoodF Pg 79 (F_chol_fits (s_chol_fits N)) := good_chol_fits N _ (gq2 N)
theorem g_chol_steps_of_p0 (N : Nat) : GoodF Pg 83 (F_chol_steps_of_p0 (s_chol_steps_of_p0 N)) := good_chol_steps_of_p0 N _ (gq2 N)
theorem g_chol_steps_times_p0 (N : Nat) : GoodF Pg 81 (F_chol_steps_times_p0 (s_chol_steps_times_p0 N)) := good_chol_steps_times_p0 N _ (g_chol_steps_of_p0 N)
theorem g_chol_steps_less_p0 (N : Nat) : GoodF Pg 80 (F_chol_steps_less_p0 (s_chol_steps_less_p0 N)) := good_chol_steps_less_p0 N _ (g_chol_steps_of_p0 N)
theorem g_chol_steps_down_p0 (N : Nat) : GoodF Pg 67 (F_chol_steps_down_p0 (s_chol_steps_down_p0 N)) := good_chol_steps_down_p0 N _ _ _ _ (g_chol_at N) (g_chol_steps_times_p0 N) (g_chol_steps_less_p0 N) (g_chol_steps_of_p0 N)
theorem g_chol_by_f (N : Nat) : GoodF Pg 66 (F_chol_by_f (s_chol_by_f N)) := good_chol_by_f N _ _ _ (g_chol_triangle N) (g_chol_fits N) (g_chol_steps_down_p0 N)
theorem g_chol_Lower (N : Nat) : GoodF Pg 53 (F_chol_Lower (s_chol_Lower N)) := good_chol_Lower N _ (g_chol_by_f N)
theorem g_root_Distance (N : Nat) : GoodF Pg 24 (F_root_Distance (s_root_Distance N)) := good_root_Distance N _ _ _ _ _ (g_root_Check N) (gq2 N) (g_root_steps_see_p0 N) (g_chol_Lower N) (g_root_steps_dot_p0 N)
theorem gq36 (N : Nat) : GoodF Pg 10 (Fq36 (sq36 N)) := goodq36 N _ _ _ (g_root_Update_thaw N) (g_root_Distance N) (g_root_Check N)
theorem tq41 (N : Nat) (x : List Int) (m_0 m_1 : Int) (m_2 : List Int) (w : List RY0) (n cut : Int) (hG : sq41 N x m_0 m_1 m_2 w n cut (fun b => b) = true) : OkC Pg 3 (shFq41.args [.ints x, .int m_0, .int m_1, .ints m_2, .recs RT0 w, .int n, .int cut]) [] (.bool true) [] :=
  topq41 N _ _ _ _ _ _ _ (gq44 N) (g_zk_of N) (g_root_Rows N) (gq34 N) (gq47 N) (gq13 N) (gq36 N) x m_0 m_1 m_2 w n cut hG
end Go.Proofs.Ytgngdkjghdohiaa
end
