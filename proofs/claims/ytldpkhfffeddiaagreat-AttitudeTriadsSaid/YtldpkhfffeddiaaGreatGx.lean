/-
  The program's functions without a body, and those that look at bits, tied to their meanings.
  Conditions: none.
-/
import Derived.Test.YtldpkhfffeddiaaGreatGs
import Derived.Test.YtldpkhfffeddiaaGreatMachP
import Derived.Test.YtldpkhfffeddiaaGreatBig
import Derived.Test.YtldpkhfffeddiaaGreatGt0
import Derived.Test.YtldpkhfffeddiaaGreatGt1
import Derived.Test.YtldpkhfffeddiaaGreatGt2
import Derived.Test.YtldpkhfffeddiaaGreatGt3
import Derived.Test.YtldpkhfffeddiaaGreatGt4
import Derived.Test.YtldpkhfffeddiaaGreatGt5
import Derived.Test.YtldpkhfffeddiaaGreatGt6
section
namespace Go.Proofs.YtldpkhfffeddiaaGreat
open Go Go.Mach Go.Proofs
set_option maxRecDepth 20000

theorem g_q78 (N_ : Nat) : GoodF Tryz.prog 74 (F_q78 (s_q78 N_)) :=
  good_mono (good_bits_fb (fn := Tryz.f74) (by kernel_rfl) (by kernel_rfl) (by kernel_rfl) (by kernel_rfl) (by kernel_rfl)) fun a k h => by
    unfold sp_q78 at h; split at h
    · exact h
    · cases h
theorem g_q48 (N_ : Nat) : GoodF Tryz.prog 74 (F_q48 (s_q48 N_)) :=
  good_mono (good_bits (fn := Tryz.f74) (by kernel_rfl) (by kernel_rfl) (by kernel_rfl) (by kernel_rfl) (by kernel_rfl)) fun a k h => by
    unfold sp_q48 s_q48 at h; split at h
    · split at h
      · exact h
      · cases h
    · cases h
theorem g_q39 (N_ : Nat) : GoodF Tryz.prog 67 (F_q39 (s_q39 N_)) :=
  good_mono (good_frombits (fn := Tryz.f67) (by kernel_rfl) (by kernel_rfl) (by kernel_rfl) (by kernel_rfl) (by kernel_rfl)) fun a k h => by
    unfold sp_q39 at h; split at h
    · exact h
    · cases h
theorem g_q123 (N_ : Nat) : GoodF Tryz.prog 155 (F_q123 (s_q123 N_)) :=
  good_mono (good_sqrt (fn := Tryz.f155) (by kernel_rfl) (by kernel_rfl) (by kernel_rfl) (by kernel_rfl) (by kernel_rfl) sqrt_nan) fun a k h => by
    unfold sp_q123 at h; split at h
    · exact h
    · cases h
theorem x_q88 (N_ : Nat) (h : GoodF Tryz.prog 118 (F_q106 (s_q106 N_))) : GoodF Tryz.prog 118 (F_q88 (s_q88 N_)) := by
  have q : ∀ b, clsF (cn (some b)) = clsF (some b) := by
    intro b; by_cases hb : isNaN b = true <;> simp [cn, clsF, cls, hb]
  refine good_lift1 (sp_q88 (s_q88 N_)) (fun x => .int .i64 (clsF x)) h rfl (fun a k hk => ?_) (fun b k => ?_) (fun b => by rw [q])
  · unfold sp_q88 at hk; split at hk
    · exact ⟨_, rfl, hk⟩
    · cases hk
  · have e : F_q106 (s_q106 N_) [.val (.float .f64 b)] [] k = s_q106 N_ b (fun r0 => k (.int .i64 r0) []) := by kernel_rfl
    rw [e, law_Class, q]; rfl
theorem x_m_Abs (N_ : Nat) (h : GoodF Tryz.prog 122 (F_q120 (s_q120 N_))) : GoodF Tryz.prog 122 (F_m_Abs (s_m_Abs N_)) := by
  have q : ∀ b, absF (cn (some b)) = absF (some b) := by
    intro b
    by_cases hb : isNaN b = true
    · have hb' := (isNaN_iff b).1 hb
      have : isNaN (b % 9223372036854775808) = true := (isNaN_iff _).2 (by omega)
      simp [cn, absF, canon, hb, this]
    · simp [cn, hb]
  refine good_lift1 (sp_m_Abs (s_m_Abs N_)) (fun x => .flt (absF x)) h rfl (fun a k hk => ?_) (fun b k => ?_) (fun b => by rw [q])
  · unfold sp_m_Abs at hk; split at hk
    · exact ⟨_, rfl, hk⟩
    · cases hk
  · have e : F_q120 (s_q120 N_) [.val (.float .f64 b)] [] k = s_q120 N_ b (fun r0 => k (.flt r0) []) := by kernel_rfl
    rw [e, law_Abs, q]

end Go.Proofs.YtldpkhfffeddiaaGreat
end
section
namespace Go.Proofs.YtldpkhfffeddiaaGreat
open Go Go.Mach Go.Proofs
set_option linter.unusedVariables false

theorem g_an_of (N_ : Nat) : GoodF Tryz.prog 161 (F_an_of (s_an_of N_)) := good_an_of N_
theorem g_q103 (N_ : Nat) : GoodF Tryz.prog 202 (F_q103 (s_q103 N_)) := good_q103 N_
theorem g_q46 (N_ : Nat) : GoodF Tryz.prog 210 (F_q46 (s_q46 N_)) := good_q46 N_
theorem g_q42 (N_ : Nat) : GoodF Tryz.prog 198 (F_q42 (s_q42 N_)) := good_q42 N_ _ _ (g_q103 N_) (g_q46 N_)
theorem g_q71 (N_ : Nat) : GoodF Tryz.prog 203 (F_q71 (s_q71 N_)) := good_q71 N_
theorem g_q114 (N_ : Nat) : GoodF Tryz.prog 199 (F_q114 (s_q114 N_)) := good_q114 N_ _ _ (g_q46 N_) (g_q71 N_)
theorem g_q12 (N_ : Nat) : GoodF Tryz.prog 173 (F_q12 (s_q12 N_)) := good_q12 N_ _ _ (g_q42 N_) (g_q114 N_)
theorem g_q28 (N_ : Nat) : GoodF Tryz.prog 189 (F_q28 (s_q28 N_)) := good_q28 N_ _ _ _ (g_q12 N_) (g_q103 N_) (g_q71 N_)
theorem g_q27 (N_ : Nat) : GoodF Tryz.prog 160 (F_q27 (s_q27 N_)) := good_q27 N_ _ (g_q28 N_)
theorem g_q106 (N_ : Nat) : GoodF Tryz.prog 118 (F_q106 (s_q106 N_)) := good_q106 N_ _ _ _ (g_q78 N_) (g_an_of N_) (g_q27 N_)
theorem g_q113 (N_ : Nat) : GoodF Tryz.prog 137 (F_q113 (s_q113 N_)) := good_q113 N_ _ _ _ (g_q78 N_) (g_an_of N_) (g_q12 N_)
theorem g_q120 (N_ : Nat) : GoodF Tryz.prog 122 (F_q120 (s_q120 N_)) := good_q120 N_ _ _ (g_q78 N_) (g_q39 N_)
theorem g_zl_f (N_ : Nat) : GoodF Tryz.prog 24 (F_zl_f (s_zl_f N_)) := good_zl_f N_ _ (g_q39 N_)
theorem g_q117 (N_ : Nat) : GoodF Tryz.prog 6 (F_q117 (s_q117 N_)) := good_q117 N_ _ (g_zl_f N_)
theorem g_q88 (N_ : Nat) : GoodF Tryz.prog 118 (F_q88 (s_q88 N_)) := x_q88 N_ (g_q106 N_)
theorem g_q14 (N_ : Nat) : GoodF Tryz.prog 59 (F_q14 (s_q14 N_)) := good_q14 N_ _ (g_q88 N_)
theorem g_q26 (N_ : Nat) : GoodF Tryz.prog 18 (F_q26 (s_q26 N_)) := good_q26 N_ _ (g_q14 N_)
theorem g_qr_list (N_ : Nat) : GoodF Tryz.prog 162 (F_qr_list (s_qr_list N_)) := good_qr_list N_ _ (g_q14 N_)
theorem g_m_Abs (N_ : Nat) : GoodF Tryz.prog 122 (F_m_Abs (s_m_Abs N_)) := x_m_Abs N_ (g_q120 N_)
theorem g_q64 (N_ : Nat) : GoodF Tryz.prog 62 (F_q64 (s_q64 N_)) := good_q64 N_ _ (g_m_Abs N_)
theorem g_q84 (N_ : Nat) : GoodF Tryz.prog 190 (F_q84 (s_q84 N_)) := good_q84 N_
theorem g_q22 (N_ : Nat) : GoodF Tryz.prog 191 (F_q22 (s_q22 N_)) := good_q22 N_ _ (g_m_Abs N_)
theorem g_q115 (N_ : Nat) : GoodF Tryz.prog 165 (F_q115 (s_q115 N_)) := good_q115 N_ _ _ _ _ _ (g_q64 N_) (g_q84 N_) (g_q22 N_) (g_q48 N_) (g_q39 N_)
theorem g_q41 (N_ : Nat) : GoodF Tryz.prog 125 (F_q41 (s_q41 N_)) := good_q41 N_ _ (g_q115 N_)
theorem g_qr_power (N_ : Nat) : GoodF Tryz.prog 142 (F_qr_power (s_qr_power N_)) := good_qr_power N_ _ _ (g_m_Abs N_) (g_q41 N_)
theorem g_q58 (N_ : Nat) : GoodF Tryz.prog 192 (F_q58 (s_q58 N_)) := good_q58 N_ _ _ (g_q48 N_) (g_q39 N_)
theorem g_m_Inf (N_ : Nat) : GoodF Tryz.prog 193 (F_m_Inf (s_m_Inf N_)) := good_m_Inf N_ _ (g_q39 N_)
theorem g_q112 (N_ : Nat) : GoodF Tryz.prog 167 (F_q112 (s_q112 N_)) := good_q112 N_ _ _ _ _ _ _ _ (g_q64 N_) (g_q84 N_) (g_q22 N_) (g_q48 N_) (g_q58 N_) (g_m_Inf N_) (g_q39 N_)
theorem g_q59 (N_ : Nat) : GoodF Tryz.prog 126 (F_q59 (s_q59 N_)) := good_q59 N_ _ (g_q112 N_)
theorem g_q61 (N_ : Nat) : GoodF Tryz.prog 116 (F_q61 (s_q61 N_)) := good_q61 N_ _ (g_q123 N_)
theorem g_qr_scaled (N_ : Nat) : GoodF Tryz.prog 143 (F_qr_scaled (s_qr_scaled N_)) := good_qr_scaled N_ _ _ (g_q59 N_) (g_q61 N_)
theorem g_qr_length (N_ : Nat) : GoodF Tryz.prog 163 (F_qr_length (s_qr_length N_)) := good_qr_length N_ _ _ _ (g_qr_power N_) (g_qr_scaled N_) (g_q59 N_)
theorem g_qr_finite (N_ : Nat) : GoodF Tryz.prog 88 (F_qr_finite (s_qr_finite N_)) := good_qr_finite N_
theorem g_qr_Length (N_ : Nat) : GoodF Tryz.prog 119 (F_qr_Length (s_qr_Length N_)) := good_qr_Length N_ _ _ _ (g_qr_list N_) (g_qr_length N_) (g_qr_finite N_)
theorem g_q57 (N_ : Nat) : GoodF Tryz.prog 60 (F_q57 (s_q57 N_)) := good_q57 N_ _ (g_qr_Length N_)
theorem g_quat_finite (N_ : Nat) : GoodF Tryz.prog 64 (F_quat_finite (s_quat_finite N_)) := good_quat_finite N_
theorem g_quat_cross (N_ : Nat) : GoodF Tryz.prog 121 (F_quat_cross (s_quat_cross N_)) := good_quat_cross N_
theorem g_quat_vec (N_ : Nat) : GoodF Tryz.prog 120 (F_quat_vec (s_quat_vec N_)) := good_quat_vec N_ _ (g_quat_finite N_)
theorem g_quat_Cross (N_ : Nat) : GoodF Tryz.prog 61 (F_quat_Cross (s_quat_Cross N_)) := good_quat_Cross N_ _ _ _ (g_quat_finite N_) (g_quat_cross N_) (g_quat_vec N_)
theorem g_q111 (N_ : Nat) : GoodF Tryz.prog 19 (F_q111 (s_q111 N_)) := good_q111 N_ _ _ _ (g_q57 N_) (g_quat_Cross N_) (g_q26 N_)
theorem g_q52 (N_ : Nat) : GoodF Tryz.prog 20 (F_q52 (s_q52 N_)) := good_q52 N_ _ (g_q64 N_)
theorem g_q36 (N_ : Nat) : GoodF Tryz.prog 21 (F_q36 (s_q36 N_)) := good_q36 N_ _ (g_q52 N_)
theorem g_q81 (N_ : Nat) : GoodF Tryz.prog 22 (F_q81 (s_q81 N_)) := good_q81 N_
theorem g_matrix_size (N_ : Nat) : GoodF Tryz.prog 77 (F_matrix_size (s_matrix_size N_)) := good_matrix_size N_
theorem g_matrix_Check (N_ : Nat) : GoodF Tryz.prog 36 (F_matrix_Check (s_matrix_Check N_)) := good_matrix_Check N_ _ _ (g_matrix_size N_) (g_q14 N_)
theorem g_quat_From_1_p0r (N_ : Nat) : GoodF Tryz.prog 63 (F_quat_From_1_p0r (s_quat_From_1_p0r N_)) := good_quat_From_1_p0r N_
theorem g_quat_good_o1 (N_ : Nat) : GoodF Tryz.prog 123 (F_quat_good_o1 (s_quat_good_o1 N_)) := good_quat_good_o1 N_ _ (g_quat_finite N_)
theorem g_quat_told (N_ : Nat) : GoodF Tryz.prog 65 (F_quat_told (s_quat_told N_)) := good_quat_told N_ _ (g_quat_good_o1 N_)
theorem g_quat_four (N_ : Nat) : GoodF Tryz.prog 124 (F_quat_four (s_quat_four N_)) := good_quat_four N_
theorem g_quat_quat (N_ : Nat) : GoodF Tryz.prog 127 (F_quat_quat (s_quat_quat N_)) := good_quat_quat N_
theorem g_quat_Unit (N_ : Nat) : GoodF Tryz.prog 66 (F_quat_Unit (s_quat_Unit N_)) := good_quat_Unit N_ _ _ _ _ _ _ _ (g_quat_good_o1 N_) (g_quat_four N_) (g_m_Abs N_) (g_q41 N_) (g_q59 N_) (g_q61 N_) (g_quat_quat N_)
theorem g_quat_From (N_ : Nat) : GoodF Tryz.prog 23 (F_quat_From (s_quat_From N_)) := good_quat_From N_ _ _ _ _ _ (g_matrix_Check N_) (g_quat_From_1_p0r N_) (g_quat_finite N_) (g_quat_told N_) (g_quat_Unit N_)
theorem g_q80 (N_ : Nat) : GoodF Tryz.prog 5 (F_q80 (s_q80 N_)) := good_q80 N_ _ _ _ _ _ _ (g_q26 N_) (g_q111 N_) (g_q36 N_) (g_q52 N_) (g_q81 N_) (g_quat_From N_)
theorem g_q108 (N_ : Nat) : GoodF Tryz.prog 175 (F_q108 (s_q108 N_)) := good_q108 N_ _ (g_q48 N_)
theorem g_q93 (N_ : Nat) : GoodF Tryz.prog 169 (F_q93 (s_q93 N_)) := good_q93 N_ _ (g_q108 N_)
theorem g_q67 (N_ : Nat) : GoodF Tryz.prog 170 (F_q67 (s_q67 N_)) := good_q67 N_
theorem g_q92 (N_ : Nat) : GoodF Tryz.prog 132 (F_q92 (s_q92 N_)) := good_q92 N_ _ _ (g_q93 N_) (g_q67 N_)
theorem g_q9 (N_ : Nat) : GoodF Tryz.prog 71 (F_q9 (s_q9 N_)) := good_q9 N_ _ (g_q92 N_)
theorem g_q11 (N_ : Nat) : GoodF Tryz.prog 49 (F_q11 (s_q11 N_)) := good_q11 N_ _ (g_q9 N_)
theorem g_q15 (N_ : Nat) : GoodF Tryz.prog 68 (F_q15 (s_q15 N_)) := good_q15 N_ _ (g_q11 N_)
theorem g_q21 (N_ : Nat) : GoodF Tryz.prog 25 (F_q21 (s_q21 N_)) := good_q21 N_ _ (g_q15 N_)
theorem g_q107 (N_ : Nat) : GoodF Tryz.prog 168 (F_q107 (s_q107 N_)) := good_q107 N_ _ (g_q11 N_)
theorem g_q65 (N_ : Nat) : GoodF Tryz.prog 133 (F_q65 (s_q65 N_)) := good_q65 N_ _ _ (g_m_Abs N_) (g_q41 N_)
theorem g_q60 (N_ : Nat) : GoodF Tryz.prog 194 (F_q60 (s_q60 N_)) := good_q60 N_
theorem g_q40 (N_ : Nat) : GoodF Tryz.prog 195 (F_q40 (s_q40 N_)) := good_q40 N_
theorem g_q8 (N_ : Nat) : GoodF Tryz.prog 226 (F_q8 (s_q8 N_)) := good_q8 N_
theorem g_q49 (N_ : Nat) : GoodF Tryz.prog 213 (F_q49 (s_q49 N_)) := good_q49 N_ _ (g_q8 N_)
theorem g_q100 (N_ : Nat) : GoodF Tryz.prog 226 (F_q100 (s_q100 N_)) := good_q100 N_
theorem g_q13 (N_ : Nat) : GoodF Tryz.prog 212 (F_q13 (s_q13 N_)) := good_q13 N_ _ (g_q100 N_)
theorem g_q25 (N_ : Nat) : GoodF Tryz.prog 204 (F_q25 (s_q25 N_)) := good_q25 N_ _ _ (g_q49 N_) (g_q13 N_)
theorem g_q19 (N_ : Nat) : GoodF Tryz.prog 212 (F_q19 (s_q19 N_)) := good_q19 N_ _ (g_q100 N_)
theorem g_q29 (N_ : Nat) : GoodF Tryz.prog 204 (F_q29 (s_q29 N_)) := good_q29 N_ _ _ (g_q49 N_) (g_q19 N_)
theorem g_q86 (N_ : Nat) : GoodF Tryz.prog 196 (F_q86 (s_q86 N_)) := good_q86 N_ _ _ (g_q25 N_) (g_q29 N_)
theorem g_q104 (N_ : Nat) : GoodF Tryz.prog 205 (F_q104 (s_q104 N_)) := good_q104 N_
theorem g_q90 (N_ : Nat) : GoodF Tryz.prog 197 (F_q90 (s_q90 N_)) := good_q90 N_ _ (g_q104 N_)
theorem g_q20 (N_ : Nat) : GoodF Tryz.prog 214 (F_q20 (s_q20 N_)) := good_q20 N_
theorem g_q47 (N_ : Nat) : GoodF Tryz.prog 206 (F_q47 (s_q47 N_)) := good_q47 N_ _ (g_q20 N_)
theorem g_q44 (N_ : Nat) : GoodF Tryz.prog 215 (F_q44 (s_q44 N_)) := good_q44 N_
theorem g_q94 (N_ : Nat) : GoodF Tryz.prog 207 (F_q94 (s_q94 N_)) := good_q94 N_ _ (g_q44 N_)
theorem g_q99 (N_ : Nat) : GoodF Tryz.prog 208 (F_q99 (s_q99 N_)) := good_q99 N_ _ (g_q20 N_)
theorem g_q63 (N_ : Nat) : GoodF Tryz.prog 227 (F_q63 (s_q63 N_)) := good_q63 N_
theorem g_q1 (N_ : Nat) : GoodF Tryz.prog 216 (F_q1 (s_q1 N_)) := good_q1 N_ _ (g_q63 N_)
theorem g_q68 (N_ : Nat) : GoodF Tryz.prog 212 (F_q68 (s_q68 N_)) := good_q68 N_ _ (g_q8 N_)
theorem g_q3 (N_ : Nat) : GoodF Tryz.prog 217 (F_q3 (s_q3 N_)) := good_q3 N_ _ (g_q68 N_)
theorem g_q79 (N_ : Nat) : GoodF Tryz.prog 228 (F_q79 (s_q79 N_)) := good_q79 N_ _ (g_q8 N_)
theorem g_q5 (N_ : Nat) : GoodF Tryz.prog 218 (F_q5 (s_q5 N_)) := good_q5 N_ _ _ (g_q79 N_) (g_q19 N_)
theorem g_q66 (N_ : Nat) : GoodF Tryz.prog 234 (F_q66 (s_q66 N_)) := good_q66 N_ _ (g_q8 N_)
theorem g_q10 (N_ : Nat) : GoodF Tryz.prog 235 (F_q10 (s_q10 N_)) := good_q10 N_ _ (g_q8 N_)
theorem g_q45 (N_ : Nat) : GoodF Tryz.prog 236 (F_q45 (s_q45 N_)) := good_q45 N_ _ (g_q8 N_)
theorem g_q56 (N_ : Nat) : GoodF Tryz.prog 223 (F_q56 (s_q56 N_)) := good_q56 N_ _ _ _ _ (g_q66 N_) (g_q13 N_) (g_q10 N_) (g_q45 N_)
theorem g_q54 (N_ : Nat) : GoodF Tryz.prog 218 (F_q54 (s_q54 N_)) := good_q54 N_ _ _ (g_q79 N_) (g_q13 N_)
theorem g_q23 (N_ : Nat) : GoodF Tryz.prog 238 (F_q23 (s_q23 N_)) := good_q23 N_
theorem g_q31 (N_ : Nat) : GoodF Tryz.prog 232 (F_q31 (s_q31 N_)) := good_q31 N_ _ _ _ _ (g_q45 N_) (g_q13 N_) (g_q23 N_) (g_q10 N_)
theorem g_q30 (N_ : Nat) : GoodF Tryz.prog 229 (F_q30 (s_q30 N_)) := good_q30 N_ _ (g_q31 N_)
theorem g_q34 (N_ : Nat) : GoodF Tryz.prog 233 (F_q34 (s_q34 N_)) := good_q34 N_ _ _ (g_q49 N_) (g_q13 N_)
theorem g_q6 (N_ : Nat) : GoodF Tryz.prog 222 (F_q6 (s_q6 N_)) := good_q6 N_ _ (g_q34 N_)
theorem g_q55 (N_ : Nat) : GoodF Tryz.prog 230 (F_q55 (s_q55 N_)) := good_q55 N_ _ (g_q23 N_)
theorem g_q17 (N_ : Nat) : GoodF Tryz.prog 219 (F_q17 (s_q17 N_)) := good_q17 N_ _ _ _ _ _ _ (g_q56 N_) (g_q54 N_) (g_q30 N_) (g_q44 N_) (g_q6 N_) (g_q55 N_)
theorem g_q70 (N_ : Nat) : GoodF Tryz.prog 231 (F_q70 (s_q70 N_)) := good_q70 N_ _ (g_q10 N_)
theorem g_q7 (N_ : Nat) : GoodF Tryz.prog 220 (F_q7 (s_q7 N_)) := good_q7 N_ _ (g_q70 N_)
theorem g_q33 (N_ : Nat) : GoodF Tryz.prog 232 (F_q33 (s_q33 N_)) := good_q33 N_ _ _ _ _ (g_q45 N_) (g_q19 N_) (g_q23 N_) (g_q10 N_)
theorem g_q0 (N_ : Nat) : GoodF Tryz.prog 221 (F_q0 (s_q0 N_)) := good_q0 N_ _ (g_q33 N_)
theorem g_q4 (N_ : Nat) : GoodF Tryz.prog 223 (F_q4 (s_q4 N_)) := good_q4 N_ _ _ _ _ (g_q66 N_) (g_q19 N_) (g_q10 N_) (g_q45 N_)
theorem g_q16 (N_ : Nat) : GoodF Tryz.prog 224 (F_q16 (s_q16 N_)) := good_q16 N_ _ (g_q47 N_)
theorem g_q2 (N_ : Nat) : GoodF Tryz.prog 225 (F_q2 (s_q2 N_)) := good_q2 N_
theorem g_q82 (N_ : Nat) : GoodF Tryz.prog 209 (F_q82 (s_q82 N_)) := good_q82 N_ _ _ _ _ _ _ _ _ _ _ _ (g_q1 N_) (g_q3 N_) (g_q5 N_) (g_q17 N_) (g_q7 N_) (g_q6 N_) (g_q0 N_) (g_q4 N_) (g_q16 N_) (g_q2 N_) (g_q20 N_)
theorem g_q53 (N_ : Nat) : GoodF Tryz.prog 197 (F_q53 (s_q53 N_)) := good_q53 N_ _ _ _ _ _ (g_q104 N_) (g_q47 N_) (g_q94 N_) (g_q99 N_) (g_q82 N_)
theorem g_q83 (N_ : Nat) : GoodF Tryz.prog 171 (F_q83 (s_q83 N_)) := good_q83 N_ _ _ _ _ _ (g_q60 N_) (g_q40 N_) (g_q86 N_) (g_q90 N_) (g_q53 N_)
theorem g_q24 (N_ : Nat) : GoodF Tryz.prog 134 (F_q24 (s_q24 N_)) := good_q24 N_ _ _ _ (g_q48 N_) (g_q83 N_) (g_q39 N_)
theorem g_q91 (N_ : Nat) : GoodF Tryz.prog 92 (F_q91 (s_q91 N_)) := good_q91 N_
theorem g_q75 (N_ : Nat) : GoodF Tryz.prog 148 (F_q75 (s_q75 N_)) := good_q75 N_ _ _ _ (g_q24 N_) (g_q91 N_) (g_q61 N_)
theorem g_q77 (N_ : Nat) : GoodF Tryz.prog 128 (F_q77 (s_q77 N_)) := good_q77 N_ _ _ _ _ _ (g_q107 N_) (g_q65 N_) (g_q75 N_) (g_q24 N_) (g_q9 N_)
theorem g_q76 (N_ : Nat) : GoodF Tryz.prog 69 (F_q76 (s_q76 N_)) := good_q76 N_ _ (g_q77 N_)
theorem g_q43 (N_ : Nat) : GoodF Tryz.prog 129 (F_q43 (s_q43 N_)) := good_q43 N_
theorem g_q95 (N_ : Nat) : GoodF Tryz.prog 131 (F_q95 (s_q95 N_)) := good_q95 N_
theorem g_q73 (N_ : Nat) : GoodF Tryz.prog 130 (F_q73 (s_q73 N_)) := good_q73 N_ _ (g_q15 N_)
theorem g_q87 (N_ : Nat) : GoodF Tryz.prog 70 (F_q87 (s_q87 N_)) := good_q87 N_ _ _ _ _ (g_q15 N_) (g_q43 N_) (g_q95 N_) (g_q73 N_)
theorem g_q102 (N_ : Nat) : GoodF Tryz.prog 26 (F_q102 (s_q102 N_)) := good_q102 N_ _ _ _ (g_q76 N_) (g_q87 N_) (g_q21 N_)
theorem g_q105 (N_ : Nat) : GoodF Tryz.prog 27 (F_q105 (s_q105 N_)) := good_q105 N_
theorem g_q51 (N_ : Nat) : GoodF Tryz.prog 28 (F_q51 (s_q51 N_)) := good_q51 N_ _ (g_q9 N_)
theorem g_q72 (N_ : Nat) : GoodF Tryz.prog 29 (F_q72 (s_q72 N_)) := good_q72 N_
theorem g_q37 (N_ : Nat) : GoodF Tryz.prog 45 (F_q37 (s_q37 N_)) := good_q37 N_ _ (g_q11 N_)
theorem g_q96 (N_ : Nat) : GoodF Tryz.prog 46 (F_q96 (s_q96 N_)) := good_q96 N_
theorem g_q32 (N_ : Nat) : GoodF Tryz.prog 42 (F_q32 (s_q32 N_)) := good_q32 N_
theorem g_q62 (N_ : Nat) : GoodF Tryz.prog 32 (F_q62 (s_q62 N_)) := good_q62 N_
theorem g_q18 (N_ : Nat) : GoodF Tryz.prog 72 (F_q18 (s_q18 N_)) := good_q18 N_ _ _ (g_q62 N_) (g_q11 N_)
theorem g_q35 (N_ : Nat) : GoodF Tryz.prog 129 (F_q35 (s_q35 N_)) := good_q35 N_
theorem g_q119 (N_ : Nat) : GoodF Tryz.prog 135 (F_q119 (s_q119 N_)) := good_q119 N_
theorem g_q50 (N_ : Nat) : GoodF Tryz.prog 73 (F_q50 (s_q50 N_)) := good_q50 N_ _ _ _ _ _ _ _ (g_q18 N_) (g_q35 N_) (g_q62 N_) (g_q65 N_) (g_q24 N_) (g_q61 N_) (g_q119 N_)
theorem g_q89 (N_ : Nat) : GoodF Tryz.prog 30 (F_q89 (s_q89 N_)) := good_q89 N_ _ _ _ _ _ _ (g_q37 N_) (g_q96 N_) (g_q32 N_) (g_q18 N_) (g_q9 N_) (g_q50 N_)
theorem g_q69 (N_ : Nat) : GoodF Tryz.prog 7 (F_q69 (s_q69 N_)) := good_q69 N_ _ _ _ _ _ _ (g_q21 N_) (g_q102 N_) (g_q105 N_) (g_q51 N_) (g_q72 N_) (g_q89 N_)
theorem g_q97 (N_ : Nat) : GoodF Tryz.prog 31 (F_q97 (s_q97 N_)) := good_q97 N_ _ (g_q48 N_)
theorem g_q74 (N_ : Nat) : GoodF Tryz.prog 8 (F_q74 (s_q74 N_)) := good_q74 N_ _ _ (g_q62 N_) (g_q97 N_)
theorem g_matrix_list (N_ : Nat) : GoodF Tryz.prog 79 (F_matrix_list (s_matrix_list N_)) := good_matrix_list N_ _ (g_q14 N_)
theorem g_matrix_Diag_1_p0r (N_ : Nat) : GoodF Tryz.prog 172 (F_matrix_Diag_1_p0r (s_matrix_Diag_1_p0r N_)) := good_matrix_Diag_1_p0r N_
theorem g_matrix_fill_fr (N_ : Nat) : GoodF Tryz.prog 140 (F_matrix_fill_fr (s_matrix_fill_fr N_)) := good_matrix_fill_fr N_ _ (g_matrix_Diag_1_p0r N_)
theorem g_matrix_Diag (N_ : Nat) : GoodF Tryz.prog 136 (F_matrix_Diag (s_matrix_Diag N_)) := good_matrix_Diag N_ _ _ (g_matrix_list N_) (g_matrix_fill_fr N_)
theorem g_q98 (N_ : Nat) : GoodF Tryz.prog 75 (F_q98 (s_q98 N_)) := good_q98 N_ _ (g_matrix_Diag N_)
theorem g_q109 (N_ : Nat) : GoodF Tryz.prog 33 (F_q109 (s_q109 N_)) := good_q109 N_ _ _ _ (g_quat_Unit N_) (g_q14 N_) (g_q98 N_)
theorem g_q116 (N_ : Nat) : GoodF Tryz.prog 34 (F_q116 (s_q116 N_)) := good_q116 N_ _ (g_q14 N_)
theorem g_q101 (N_ : Nat) : GoodF Tryz.prog 9 (F_q101 (s_q101 N_)) := good_q101 N_ _ _ _ _ (g_q109 N_) (g_q116 N_) (g_q74 N_) (g_q97 N_)
theorem g_q38 (N_ : Nat) : GoodF Tryz.prog 3 (F_q38 (s_q38 N_)) := good_q38 N_ _ _ _ _ _ (g_q117 N_) (g_q80 N_) (g_q69 N_) (g_q74 N_) (g_q101 N_)
theorem t_q38 (N_ : Nat) (a_0 : Int) (a_1 : Int) (a_2 : Int) (b_0 : Int) (b_1 : Int) (b_2 : Int) (c_0 : Int) (c_1 : Int) (c_2 : Int) (d_0 : Int) (d_1 : Int) (d_2 : Int) (hG : s_q38 N_ a_0 a_1 a_2 b_0 b_1 b_2 c_0 c_1 c_2 d_0 d_1 d_2 (fun b => b) = true) : OkC Tryz.prog 3 (shF_q38.args [.int a_0, .int a_1, .int a_2, .int b_0, .int b_1, .int b_2, .int c_0, .int c_1, .int c_2, .int d_0, .int d_1, .int d_2]) [] (.bool true) [] :=
  top_q38 N_ _ _ _ _ _ (g_q117 N_) (g_q80 N_) (g_q69 N_) (g_q74 N_) (g_q101 N_) a_0 a_1 a_2 b_0 b_1 b_2 c_0 c_1 c_2 d_0 d_1 d_2 hG
end Go.Proofs.YtldpkhfffeddiaaGreat
end
