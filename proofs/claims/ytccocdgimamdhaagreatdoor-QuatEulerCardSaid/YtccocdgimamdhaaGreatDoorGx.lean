/-
  The program's functions without a body, and those that look at bits, tied to their meanings.
  Conditions: none.
-/
import Derived.Test.YtccocdgimamdhaaGreatDoorGs
import Derived.Test.YtccocdgimamdhaaGreatDoorMachP
import Derived.Test.YtccocdgimamdhaaGreatDoorQ1
import Derived.Test.YtccocdgimamdhaaGreatDoorGt0
import Derived.Test.YtccocdgimamdhaaGreatDoorGt1
import Derived.Test.YtccocdgimamdhaaGreatDoorGt2
import Derived.Test.YtccocdgimamdhaaGreatDoorGt3
import Derived.Test.YtccocdgimamdhaaGreatDoorGt4
section
namespace Go.Proofs.YtccocdgimamdhaaGreatDoor
open Go Go.Mach Go.Proofs
set_option maxRecDepth 20000

theorem g_q117 (N_ : Nat) : GoodF Pg 88 (F_q117 (s_q117 N_)) :=
  good_mono (good_bits_fb (fn := Tryz.f88) (by kernel_rfl) (by kernel_rfl) (by kernel_rfl) (by kernel_rfl) (by kernel_rfl)) fun a k h => by
    unfold sp_q117 at h; split at h
    · exact h
    · cases h
theorem g_q90 (N_ : Nat) : GoodF Pg 88 (F_q90 (s_q90 N_)) :=
  good_mono (good_bits (fn := Tryz.f88) (by kernel_rfl) (by kernel_rfl) (by kernel_rfl) (by kernel_rfl) (by kernel_rfl)) fun a k h => by
    unfold sp_q90 s_q90 at h; split at h
    · split at h
      · exact h
      · cases h
    · cases h
theorem g_q77 (N_ : Nat) : GoodF Pg 100 (F_q77 (s_q77 N_)) :=
  good_mono (good_frombits (fn := Tryz.f100) (by kernel_rfl) (by kernel_rfl) (by kernel_rfl) (by kernel_rfl) (by kernel_rfl)) fun a k h => by
    unfold sp_q77 at h; split at h
    · exact h
    · cases h
theorem g_q143 (N_ : Nat) : GoodF Pg 122 (F_q143 (s_q143 N_)) :=
  good_mono (good_sqrt (fn := Tryz.f122) (by kernel_rfl) (by kernel_rfl) (by kernel_rfl) (by kernel_rfl) (by kernel_rfl) sqrt_nan) fun a k h => by
    unfold sp_q143 at h; split at h
    · exact h
    · cases h
theorem g_q56 (N_ : Nat) : GoodF Pg 221 (F_q56 (s_q56 N_)) :=
  good_mono (good_add64 (fn := Tryz.f221) (by kernel_rfl) (by kernel_rfl) (by kernel_rfl) (by kernel_rfl) (by kernel_rfl)) fun a k h => by
    unfold sp_q56 at h; split at h
    · exact h
    · cases h
theorem g_q71 (N_ : Nat) : GoodF Pg 230 (F_q71 (s_q71 N_)) :=
  good_mono (good_sub64 (fn := Tryz.f230) (by kernel_rfl) (by kernel_rfl) (by kernel_rfl) (by kernel_rfl) (by kernel_rfl)) fun a k h => by
    unfold sp_q71 at h; split at h
    · exact h
    · cases h
theorem x_q107 (N_ : Nat) (h : GoodF Pg 157 (F_q124 (s_q124 N_))) : GoodF Pg 157 (F_q107 (s_q107 N_)) := by
  have q : ∀ b, clsF (cn (some b)) = clsF (some b) := by
    intro b; by_cases hb : isNaN b = true <;> simp [cn, clsF, cls, hb]
  refine good_lift1 (sp_q107 (s_q107 N_)) (fun x => .int .i64 (clsF x)) h rfl (fun a k hk => ?_) (fun b k => ?_) (fun b => by rw [q])
  · unfold sp_q107 at hk; split at hk
    · exact ⟨_, rfl, hk⟩
    · cases hk
  · have e : F_q124 (s_q124 N_) [.val (.float .f64 b)] [] k = s_q124 N_ b (fun r0 => k (.int .i64 r0) []) := by kernel_rfl
    rw [e, law_Class, q]; rfl
theorem x_m_Abs (N_ : Nat) (h : GoodF Pg 69 (F_q139 (s_q139 N_))) : GoodF Pg 69 (F_m_Abs (s_m_Abs N_)) := by
  have q : ∀ b, absF (cn (some b)) = absF (some b) := by
    intro b
    by_cases hb : isNaN b = true
    · have hb' := (isNaN_iff b).1 hb
      have : isNaN (b % 9223372036854775808) = true := (isNaN_iff _).2 (by omega)
      simp [cn, absF, canon, hb, this]
    · simp [cn, hb]
  refine good_lift1 (sp_m_Abs (s_m_Abs N_)) (fun x => .flt (absF x)) h rfl (fun a k hk => ?_) (fun b k => ?_) (fun b => by rw [q])
  · unfold sp_m_Abs at hk; split at hk
    · exact ⟨_, rfl, hk⟩
    · cases hk
  · have e : F_q139 (s_q139 N_) [.val (.float .f64 b)] [] k = s_q139 N_ b (fun r0 => k (.flt r0) []) := by kernel_rfl
    rw [e, law_Abs, q]

end Go.Proofs.YtccocdgimamdhaaGreatDoor
end
section
namespace Go.Proofs.YtccocdgimamdhaaGreatDoor
open Go Go.Mach Go.Proofs
set_option linter.unusedVariables false

theorem g_an_of (N_ : Nat) : GoodF Pg 190 (F_an_of (s_an_of N_)) := good_an_of N_
theorem g_q118 (N_ : Nat) : GoodF Pg 229 (F_q118 (s_q118 N_)) := good_q118 N_
theorem g_q70 (N_ : Nat) : GoodF Pg 234 (F_q70 (s_q70 N_)) := good_q70 N_
theorem g_q69 (N_ : Nat) : GoodF Pg 232 (F_q69 (s_q69 N_)) := good_q69 N_ _ _ (g_q118 N_) (g_q70 N_)
theorem g_q63 (N_ : Nat) : GoodF Pg 217 (F_q63 (s_q63 N_)) := good_q63 N_
theorem g_q133 (N_ : Nat) : GoodF Pg 233 (F_q133 (s_q133 N_)) := good_q133 N_ _ _ (g_q70 N_) (g_q63 N_)
theorem g_q60 (N_ : Nat) : GoodF Pg 228 (F_q60 (s_q60 N_)) := good_q60 N_ _ _ (g_q69 N_) (g_q133 N_)
theorem g_q22 (N_ : Nat) : GoodF Pg 214 (F_q22 (s_q22 N_)) := good_q22 N_ _ _ _ (g_q60 N_) (g_q118 N_) (g_q63 N_)
theorem g_q21 (N_ : Nat) : GoodF Pg 189 (F_q21 (s_q21 N_)) := good_q21 N_ _ (g_q22 N_)
theorem g_q124 (N_ : Nat) : GoodF Pg 157 (F_q124 (s_q124 N_)) := good_q124 N_ _ _ _ (g_q117 N_) (g_an_of N_) (g_q21 N_)
theorem g_q139 (N_ : Nat) : GoodF Pg 69 (F_q139 (s_q139 N_)) := good_q139 N_ _ _ (g_q117 N_) (g_q77 N_)
theorem g_q40 (N_ : Nat) : GoodF Pg 86 (F_q40 (s_q40 N_)) := good_q40 N_
theorem g_q7 (N_ : Nat) : GoodF Pg 56 (F_q7 (s_q7 N_)) := good_q7 N_ _ (g_q40 N_)
theorem g_q46 (N_ : Nat) : GoodF Pg 68 (F_q46 (s_q46 N_)) := good_q46 N_
theorem g_m_Abs (N_ : Nat) : GoodF Pg 69 (F_m_Abs (s_m_Abs N_)) := x_m_Abs N_ (g_q139 N_)
theorem g_q97 (N_ : Nat) : GoodF Pg 148 (F_q97 (s_q97 N_)) := good_q97 N_ _ (g_m_Abs N_)
theorem g_q98 (N_ : Nat) : GoodF Pg 149 (F_q98 (s_q98 N_)) := good_q98 N_
theorem g_q55 (N_ : Nat) : GoodF Pg 150 (F_q55 (s_q55 N_)) := good_q55 N_ _ (g_m_Abs N_)
theorem g_q135 (N_ : Nat) : GoodF Pg 119 (F_q135 (s_q135 N_)) := good_q135 N_ _ _ _ _ _ (g_q97 N_) (g_q98 N_) (g_q55 N_) (g_q90 N_) (g_q77 N_)
theorem g_q132 (N_ : Nat) : GoodF Pg 70 (F_q132 (s_q132 N_)) := good_q132 N_ _ (g_q135 N_)
theorem g_q75 (N_ : Nat) : GoodF Pg 151 (F_q75 (s_q75 N_)) := good_q75 N_ _ _ (g_q90 N_) (g_q77 N_)
theorem g_m_Inf (N_ : Nat) : GoodF Pg 152 (F_m_Inf (s_m_Inf N_)) := good_m_Inf N_ _ (g_q77 N_)
theorem g_q131 (N_ : Nat) : GoodF Pg 121 (F_q131 (s_q131 N_)) := good_q131 N_ _ _ _ _ _ _ _ (g_q97 N_) (g_q98 N_) (g_q55 N_) (g_q90 N_) (g_q75 N_) (g_m_Inf N_) (g_q77 N_)
theorem g_q130 (N_ : Nat) : GoodF Pg 71 (F_q130 (s_q130 N_)) := good_q130 N_ _ (g_q131 N_)
theorem g_q137 (N_ : Nat) : GoodF Pg 72 (F_q137 (s_q137 N_)) := good_q137 N_ _ (g_q143 N_)
theorem g_q111 (N_ : Nat) : GoodF Pg 73 (F_q111 (s_q111 N_)) := good_q111 N_
theorem g_q110 (N_ : Nat) : GoodF Pg 18 (F_q110 (s_q110 N_)) := good_q110 N_ _ _ _ _ _ _ _ (g_q7 N_) (g_q46 N_) (g_m_Abs N_) (g_q132 N_) (g_q130 N_) (g_q137 N_) (g_q111 N_)
theorem g_q96 (N_ : Nat) : GoodF Pg 104 (F_q96 (s_q96 N_)) := good_q96 N_
theorem g_q126 (N_ : Nat) : GoodF Pg 105 (F_q126 (s_q126 N_)) := good_q126 N_ _ (g_q40 N_)
theorem g_q114 (N_ : Nat) : GoodF Pg 44 (F_q114 (s_q114 N_)) := good_q114 N_ _ _ _ _ (g_q7 N_) (g_q40 N_) (g_q96 N_) (g_q126 N_)
theorem g_q76 (N_ : Nat) : GoodF Pg 56 (F_q76 (s_q76 N_)) := good_q76 N_ _ (g_q40 N_)
theorem g_q125 (N_ : Nat) : GoodF Pg 58 (F_q125 (s_q125 N_)) := good_q125 N_
theorem g_q112 (N_ : Nat) : GoodF Pg 57 (F_q112 (s_q112 N_)) := good_q112 N_ _ (g_q7 N_)
theorem g_q88 (N_ : Nat) : GoodF Pg 10 (F_q88 (s_q88 N_)) := good_q88 N_ _ _ _ (g_q76 N_) (g_q125 N_) (g_q112 N_)
theorem g_q107 (N_ : Nat) : GoodF Pg 157 (F_q107 (s_q107 N_)) := x_q107 N_ (g_q124 N_)
theorem g_q78 (N_ : Nat) : GoodF Pg 124 (F_q78 (s_q78 N_)) := good_q78 N_ _ (g_q107 N_)
theorem g_q4 (N_ : Nat) : GoodF Pg 218 (F_q4 (s_q4 N_)) := good_q4 N_
theorem g_q57 (N_ : Nat) : GoodF Pg 192 (F_q57 (s_q57 N_)) := good_q57 N_ _ _ _ _ (g_q22 N_) (g_q21 N_) (g_q63 N_) (g_q4 N_)
theorem g_q127 (N_ : Nat) : GoodF Pg 160 (F_q127 (s_q127 N_)) := good_q127 N_ _ _ _ (g_q90 N_) (g_an_of N_) (g_q57 N_)
theorem g_q1 (N_ : Nat) : GoodF Pg 202 (F_q1 (s_q1 N_)) := good_q1 N_
theorem g_q100 (N_ : Nat) : GoodF Pg 193 (F_q100 (s_q100 N_)) := good_q100 N_ _ (g_q1 N_)
theorem g_q0 (N_ : Nat) : GoodF Pg 170 (F_q0 (s_q0 N_)) := good_q0 N_
theorem g_q44 (N_ : Nat) : GoodF Pg 161 (F_q44 (s_q44 N_)) := good_q44 N_ _ _ (g_q100 N_) (g_q0 N_)
theorem g_q65 (N_ : Nat) : GoodF Pg 171 (F_q65 (s_q65 N_)) := good_q65 N_
theorem g_q25 (N_ : Nat) : GoodF Pg 170 (F_q25 (s_q25 N_)) := good_q25 N_
theorem g_q18 (N_ : Nat) : GoodF Pg 131 (F_q18 (s_q18 N_)) := good_q18 N_ _ _ (g_q65 N_) (g_q25 N_)
theorem g_q116 (N_ : Nat) : GoodF Pg 126 (F_q116 (s_q116 N_)) := good_q116 N_ _ _ _ (g_q127 N_) (g_q44 N_) (g_q18 N_)
theorem g_q85 (N_ : Nat) : GoodF Pg 231 (F_q85 (s_q85 N_)) := good_q85 N_
theorem g_q79 (N_ : Nat) : GoodF Pg 219 (F_q79 (s_q79 N_)) := good_q79 N_ _ _ (g_q85 N_) (g_q56 N_)
theorem g_q105 (N_ : Nat) : GoodF Pg 194 (F_q105 (s_q105 N_)) := good_q105 N_ _ _ (g_q79 N_) (g_q1 N_)
theorem g_q43 (N_ : Nat) : GoodF Pg 162 (F_q43 (s_q43 N_)) := good_q43 N_ _ _ (g_q105 N_) (g_q0 N_)
theorem g_q14 (N_ : Nat) : GoodF Pg 127 (F_q14 (s_q14 N_)) := good_q14 N_ _ (g_q43 N_)
theorem g_q64 (N_ : Nat) : GoodF Pg 134 (F_q64 (s_q64 N_)) := good_q64 N_
theorem g_q3 (N_ : Nat) : GoodF Pg 134 (F_q3 (s_q3 N_)) := good_q3 N_
theorem g_q80 (N_ : Nat) : GoodF Pg 204 (F_q80 (s_q80 N_)) := good_q80 N_ _ (g_q1 N_)
theorem g_q54 (N_ : Nat) : GoodF Pg 172 (F_q54 (s_q54 N_)) := good_q54 N_ _ _ (g_q80 N_) (g_q0 N_)
theorem g_q26 (N_ : Nat) : GoodF Pg 159 (F_q26 (s_q26 N_)) := good_q26 N_ _ (g_q54 N_)
theorem g_q12 (N_ : Nat) : GoodF Pg 205 (F_q12 (s_q12 N_)) := good_q12 N_
theorem g_q115 (N_ : Nat) : GoodF Pg 201 (F_q115 (s_q115 N_)) := good_q115 N_ _ _ _ (g_q12 N_) (g_q56 N_) (g_q1 N_)
theorem g_q89 (N_ : Nat) : GoodF Pg 215 (F_q89 (s_q89 N_)) := good_q89 N_
theorem g_q121 (N_ : Nat) : GoodF Pg 216 (F_q121 (s_q121 N_)) := good_q121 N_ _ _ _ (g_q12 N_) (g_q71 N_) (g_q1 N_)
theorem g_q52 (N_ : Nat) : GoodF Pg 191 (F_q52 (s_q52 N_)) := good_q52 N_ _ _ _ _ (g_q115 N_) (g_q0 N_) (g_q89 N_) (g_q121 N_)
theorem g_q19 (N_ : Nat) : GoodF Pg 158 (F_q19 (s_q19 N_)) := good_q19 N_ _ (g_q52 N_)
theorem g_q13 (N_ : Nat) : GoodF Pg 125 (F_q13 (s_q13 N_)) := good_q13 N_ _ _ _ _ (g_q64 N_) (g_q3 N_) (g_q26 N_) (g_q19 N_)
theorem g_q2 (N_ : Nat) : GoodF Pg 125 (F_q2 (s_q2 N_)) := good_q2 N_ _ _ _ (g_q3 N_) (g_q26 N_) (g_q19 N_)
theorem g_q29 (N_ : Nat) : GoodF Pg 195 (F_q29 (s_q29 N_)) := good_q29 N_ _ _ (g_q65 N_) (g_q0 N_)
theorem g_q45 (N_ : Nat) : GoodF Pg 196 (F_q45 (s_q45 N_)) := good_q45 N_ _ (g_q12 N_)
theorem g_q6 (N_ : Nat) : GoodF Pg 197 (F_q6 (s_q6 N_)) := good_q6 N_ _ (g_q4 N_)
theorem g_q104 (N_ : Nat) : GoodF Pg 200 (F_q104 (s_q104 N_)) := good_q104 N_ _ _ (g_q12 N_) (g_q1 N_)
theorem g_q11 (N_ : Nat) : GoodF Pg 167 (F_q11 (s_q11 N_)) := good_q11 N_ _ _ _ (g_q104 N_) (g_q115 N_) (g_q25 N_)
theorem g_q15 (N_ : Nat) : GoodF Pg 163 (F_q15 (s_q15 N_)) := good_q15 N_ _ _ _ _ _ (g_q29 N_) (g_q3 N_) (g_q45 N_) (g_q6 N_) (g_q11 N_)
theorem g_q74 (N_ : Nat) : GoodF Pg 220 (F_q74 (s_q74 N_)) := good_q74 N_
theorem g_q102 (N_ : Nat) : GoodF Pg 198 (F_q102 (s_q102 N_)) := good_q102 N_ _ (g_q74 N_)
theorem g_q28 (N_ : Nat) : GoodF Pg 164 (F_q28 (s_q28 N_)) := good_q28 N_ _ (g_q102 N_)
theorem g_q47 (N_ : Nat) : GoodF Pg 199 (F_q47 (s_q47 N_)) := good_q47 N_ _ _ (g_q100 N_) (g_q0 N_)
theorem g_q51 (N_ : Nat) : GoodF Pg 165 (F_q51 (s_q51 N_)) := good_q51 N_ _ (g_q47 N_)
theorem g_q27 (N_ : Nat) : GoodF Pg 166 (F_q27 (s_q27 N_)) := good_q27 N_ _ _ (g_q65 N_) (g_q0 N_)
theorem g_q31 (N_ : Nat) : GoodF Pg 170 (F_q31 (s_q31 N_)) := good_q31 N_
theorem g_q17 (N_ : Nat) : GoodF Pg 168 (F_q17 (s_q17 N_)) := good_q17 N_ _ _ (g_q1 N_) (g_q31 N_)
theorem g_q134 (N_ : Nat) : GoodF Pg 203 (F_q134 (s_q134 N_)) := good_q134 N_ _ (g_q12 N_)
theorem g_q30 (N_ : Nat) : GoodF Pg 169 (F_q30 (s_q30 N_)) := good_q30 N_ _ (g_q134 N_)
theorem g_q10 (N_ : Nat) : GoodF Pg 128 (F_q10 (s_q10 N_)) := good_q10 N_ _ _ _ _ _ _ _ _ (g_q15 N_) (g_q3 N_) (g_q28 N_) (g_q51 N_) (g_q27 N_) (g_q17 N_) (g_q30 N_) (g_q11 N_)
theorem g_q67 (N_ : Nat) : GoodF Pg 79 (F_q67 (s_q67 N_)) := good_q67 N_ _ _ _ _ _ _ (g_q78 N_) (g_q116 N_) (g_q14 N_) (g_q13 N_) (g_q2 N_) (g_q10 N_)
theorem g_q99 (N_ : Nat) : GoodF Pg 132 (F_q99 (s_q99 N_)) := good_q99 N_
theorem g_q34 (N_ : Nat) : GoodF Pg 172 (F_q34 (s_q34 N_)) := good_q34 N_ _ _ (g_q80 N_) (g_q0 N_)
theorem g_q32 (N_ : Nat) : GoodF Pg 170 (F_q32 (s_q32 N_)) := good_q32 N_
theorem g_q23 (N_ : Nat) : GoodF Pg 173 (F_q23 (s_q23 N_)) := good_q23 N_ _ _ _ (g_q12 N_) (g_q1 N_) (g_q32 N_)
theorem g_q38 (N_ : Nat) : GoodF Pg 172 (F_q38 (s_q38 N_)) := good_q38 N_ _ _ (g_q80 N_) (g_q25 N_)
theorem g_q84 (N_ : Nat) : GoodF Pg 133 (F_q84 (s_q84 N_)) := good_q84 N_ _ _ _ _ _ (g_q34 N_) (g_q51 N_) (g_q23 N_) (g_q38 N_) (g_q18 N_)
theorem g_q35 (N_ : Nat) : GoodF Pg 131 (F_q35 (s_q35 N_)) := good_q35 N_ _ _ (g_q65 N_) (g_q0 N_)
theorem g_q58 (N_ : Nat) : GoodF Pg 130 (F_q58 (s_q58 N_)) := good_q58 N_ _ _ (g_q35 N_) (g_q2 N_)
theorem g_q92 (N_ : Nat) : GoodF Pg 129 (F_q92 (s_q92 N_)) := good_q92 N_ _ _ _ _ (g_q99 N_) (g_q84 N_) (g_q58 N_) (g_q10 N_)
theorem g_q68 (N_ : Nat) : GoodF Pg 80 (F_q68 (s_q68 N_)) := good_q68 N_ _ (g_q92 N_)
theorem g_q33 (N_ : Nat) : GoodF Pg 81 (F_q33 (s_q33 N_)) := good_q33 N_ _ _ _ _ _ (g_q99 N_) (g_q84 N_) (g_q35 N_) (g_q2 N_) (g_q3 N_)
theorem g_q94 (N_ : Nat) : GoodF Pg 21 (F_q94 (s_q94 N_)) := good_q94 N_ _ _ _ _ _ (g_q7 N_) (g_q46 N_) (g_q67 N_) (g_q68 N_) (g_q33 N_)
theorem g_q66 (N_ : Nat) : GoodF Pg 55 (F_q66 (s_q66 N_)) := good_q66 N_
theorem g_q41 (N_ : Nat) : GoodF Pg 8 (F_q41 (s_q41 N_)) := good_q41 N_ _ _ _ _ _ (g_q110 N_) (g_q114 N_) (g_q88 N_) (g_q94 N_) (g_q66 N_)
theorem g_q37 (N_ : Nat) : GoodF Pg 9 (F_q37 (s_q37 N_)) := good_q37 N_
theorem g_q123 (N_ : Nat) : GoodF Pg 60 (F_q123 (s_q123 N_)) := good_q123 N_
theorem g_q95 (N_ : Nat) : GoodF Pg 110 (F_q95 (s_q95 N_)) := good_q95 N_
theorem g_q122 (N_ : Nat) : GoodF Pg 89 (F_q122 (s_q122 N_)) := good_q122 N_ _ (g_q90 N_)
theorem g_q87 (N_ : Nat) : GoodF Pg 115 (F_q87 (s_q87 N_)) := good_q87 N_ _ (g_q122 N_)
theorem g_q109 (N_ : Nat) : GoodF Pg 116 (F_q109 (s_q109 N_)) := good_q109 N_
theorem g_q103 (N_ : Nat) : GoodF Pg 65 (F_q103 (s_q103 N_)) := good_q103 N_ _ _ (g_q87 N_) (g_q109 N_)
theorem g_q9 (N_ : Nat) : GoodF Pg 147 (F_q9 (s_q9 N_)) := good_q9 N_
theorem g_q113 (N_ : Nat) : GoodF Pg 117 (F_q113 (s_q113 N_)) := good_q113 N_ _ (g_q9 N_)
theorem g_q128 (N_ : Nat) : GoodF Pg 147 (F_q128 (s_q128 N_)) := good_q128 N_
theorem g_q50 (N_ : Nat) : GoodF Pg 113 (F_q50 (s_q50 N_)) := good_q50 N_ _ (g_q128 N_)
theorem g_q59 (N_ : Nat) : GoodF Pg 66 (F_q59 (s_q59 N_)) := good_q59 N_ _ _ (g_q113 N_) (g_q50 N_)
theorem g_q83 (N_ : Nat) : GoodF Pg 113 (F_q83 (s_q83 N_)) := good_q83 N_ _ (g_q9 N_)
theorem g_q81 (N_ : Nat) : GoodF Pg 67 (F_q81 (s_q81 N_)) := good_q81 N_ _ (g_q83 N_)
theorem g_q108 (N_ : Nat) : GoodF Pg 15 (F_q108 (s_q108 N_)) := good_q108 N_ _ _ _ (g_q103 N_) (g_q59 N_) (g_q81 N_)
theorem g_q101 (N_ : Nat) : GoodF Pg 114 (F_q101 (s_q101 N_)) := good_q101 N_ _ (g_q9 N_)
theorem g_q61 (N_ : Nat) : GoodF Pg 64 (F_q61 (s_q61 N_)) := good_q61 N_ _ _ (g_q101 N_) (g_q50 N_)
theorem g_q5 (N_ : Nat) : GoodF Pg 13 (F_q5 (s_q5 N_)) := good_q5 N_ _ (g_q61 N_)
theorem g_q91 (N_ : Nat) : GoodF Pg 63 (F_q91 (s_q91 N_)) := good_q91 N_
theorem g_q53 (N_ : Nat) : GoodF Pg 63 (F_q53 (s_q53 N_)) := good_q53 N_
theorem g_q119 (N_ : Nat) : GoodF Pg 183 (F_q119 (s_q119 N_)) := good_q119 N_ _ (g_q9 N_)
theorem g_q72 (N_ : Nat) : GoodF Pg 146 (F_q72 (s_q72 N_)) := good_q72 N_ _ _ (g_q119 N_) (g_q50 N_)
theorem g_q20 (N_ : Nat) : GoodF Pg 112 (F_q20 (s_q20 N_)) := good_q20 N_ _ (g_q72 N_)
theorem g_q120 (N_ : Nat) : GoodF Pg 180 (F_q120 (s_q120 N_)) := good_q120 N_ _ (g_q9 N_)
theorem g_q86 (N_ : Nat) : GoodF Pg 181 (F_q86 (s_q86 N_)) := good_q86 N_
theorem g_q106 (N_ : Nat) : GoodF Pg 182 (F_q106 (s_q106 N_)) := good_q106 N_ _ (g_q9 N_)
theorem g_q62 (N_ : Nat) : GoodF Pg 145 (F_q62 (s_q62 N_)) := good_q62 N_ _ _ _ _ (g_q120 N_) (g_q50 N_) (g_q86 N_) (g_q106 N_)
theorem g_q36 (N_ : Nat) : GoodF Pg 111 (F_q36 (s_q36 N_)) := good_q36 N_ _ (g_q62 N_)
theorem g_q16 (N_ : Nat) : GoodF Pg 61 (F_q16 (s_q16 N_)) := good_q16 N_ _ _ _ _ (g_q91 N_) (g_q53 N_) (g_q20 N_) (g_q36 N_)
theorem g_q8 (N_ : Nat) : GoodF Pg 61 (F_q8 (s_q8 N_)) := good_q8 N_ _ _ _ (g_q53 N_) (g_q20 N_) (g_q36 N_)
theorem g_q129 (N_ : Nat) : GoodF Pg 59 (F_q129 (s_q129 N_)) := good_q129 N_ _ _ _ _ _ (g_q95 N_) (g_q108 N_) (g_q5 N_) (g_q16 N_) (g_q8 N_)
theorem g_q42 (N_ : Nat) : GoodF Pg 11 (F_q42 (s_q42 N_)) := good_q42 N_ _ _ (g_q123 N_) (g_q129 N_)
theorem g_q82 (N_ : Nat) : GoodF Pg 113 (F_q82 (s_q82 N_)) := good_q82 N_ _ (g_q9 N_)
theorem g_q73 (N_ : Nat) : GoodF Pg 67 (F_q73 (s_q73 N_)) := good_q73 N_ _ (g_q82 N_)
theorem g_q49 (N_ : Nat) : GoodF Pg 62 (F_q49 (s_q49 N_)) := good_q49 N_ _ (g_q73 N_)
theorem g_q24 (N_ : Nat) : GoodF Pg 12 (F_q24 (s_q24 N_)) := good_q24 N_ _ _ _ (g_q49 N_) (g_q8 N_) (g_q53 N_)
theorem g_q93 (N_ : Nat) : GoodF Pg 14 (F_q93 (s_q93 N_)) := good_q93 N_ _ (g_q7 N_)
theorem g_q39 (N_ : Nat) : GoodF Pg 16 (F_q39 (s_q39 N_)) := good_q39 N_
theorem t_q48 (N_ : Nat) (x_0 : Int) (x_1 : Int) (x_2 : Int) (x_3 : Int) (y_0 : Int) (y_1 : Int) (y_2 : Int) (y_3 : Int) (z_0 : Int) (z_1 : Int) (z_2 : Int) (z_3 : Int) (hG : s_q48 N_ x_0 x_1 x_2 x_3 y_0 y_1 y_2 y_3 z_0 z_1 z_2 z_3 (fun b => b) = true) : OkC Pg 3 (shF_q48.args [.int x_0, .int x_1, .int x_2, .int x_3, .int y_0, .int y_1, .int y_2, .int y_3, .int z_0, .int z_1, .int z_2, .int z_3]) [] (.bool true) [] :=
  top_q48 N_ _ _ _ _ _ _ _ _ _ (g_q41 N_) (g_q37 N_) (g_q88 N_) (g_q42 N_) (g_q5 N_) (g_q24 N_) (g_q93 N_) (g_q108 N_) (g_q39 N_) x_0 x_1 x_2 x_3 y_0 y_1 y_2 y_3 z_0 z_1 z_2 z_3 hG
end Go.Proofs.YtccocdgimamdhaaGreatDoor
end
