/-
  The program's functions without a body, and those that look at bits, tied to their meanings.
  Conditions: none.
-/
import Derived.Test.YtgngdkjghdohiaaGreatGp
import Derived.Test.YtgngdkjghdohiaaGreatMachP
import Derived.Test.YtgngdkjghdohiaaGreatL1
import Derived.Test.YtgngdkjghdohiaaGreatGt0
import Derived.Test.YtgngdkjghdohiaaGreatGt1
import Derived.Test.YtgngdkjghdohiaaGreatGt2
import Derived.Test.YtgngdkjghdohiaaGreatGt3
section
namespace Go.Proofs.YtgngdkjghdohiaaGreat
open Go Go.Mach Go.Proofs
set_option maxRecDepth 20000

theorem gZ78 (N : Nat) : GoodF Pg 90 (FZ78 (sZ78 N)) :=
  good_mono (good_bits_fb (fn := Tryz.f90) (by kernel_rfl) (by kernel_rfl) (by kernel_rfl) (by kernel_rfl) (by kernel_rfl)) fun a k h => by
    unfold spZ78 at h; split at h
    · exact h
    · cases h
theorem gZ57 (N : Nat) : GoodF Pg 90 (FZ57 (sZ57 N)) :=
  good_mono (good_bits (fn := Tryz.f90) (by kernel_rfl) (by kernel_rfl) (by kernel_rfl) (by kernel_rfl) (by kernel_rfl)) fun a k h => by
    unfold spZ57 sZ57 at h; split at h
    · split at h
      · exact h
      · cases h
    · cases h
theorem gZ30 (N : Nat) : GoodF Pg 31 (FZ30 (sZ30 N)) :=
  good_mono (good_frombits (fn := Tryz.f31) (by kernel_rfl) (by kernel_rfl) (by kernel_rfl) (by kernel_rfl) (by kernel_rfl)) fun a k h => by
    unfold spZ30 at h; split at h
    · exact h
    · cases h
theorem gZ130 (N : Nat) : GoodF Pg 190 (FZ130 (sZ130 N)) :=
  good_mono (good_sqrt (fn := Tryz.f190) (by kernel_rfl) (by kernel_rfl) (by kernel_rfl) (by kernel_rfl) (by kernel_rfl) sqrt_nan) fun a k h => by
    unfold spZ130 at h; split at h
    · exact h
    · cases h
theorem xZ93 (N : Nat) (h : GoodF Pg 159 (FZ112 (sZ112 N))) : GoodF Pg 159 (FZ93 (sZ93 N)) := by
  have q : ∀ b, clsF (cn (some b)) = clsF (some b) := by
    intro b; by_cases hb : isNaN b = true <;> simp [cn, clsF, cls, hb]
  refine good_lift1 (spZ93 (sZ93 N)) (fun x => .int .i64 (clsF x)) h rfl (fun a k hk => ?_) (fun b k => ?_) (fun b => by rw [q])
  · unfold spZ93 at hk; split at hk
    · exact ⟨_, rfl, hk⟩
    · cases hk
  · have e : FZ112 (sZ112 N) [.val (.float .f64 b)] [] k = sZ112 N b (fun r0 => k (.int .i64 r0) []) := by kernel_rfl
    rw [e, law_Class, q]; rfl
theorem x_m_Abs (N : Nat) (h : GoodF Pg 35 (FZ125 (sZ125 N))) : GoodF Pg 35 (F_m_Abs (s_m_Abs N)) := by
  have q : ∀ b, absF (cn (some b)) = absF (some b) := by
    intro b
    by_cases hb : isNaN b = true
    · have hb' := (isNaN_iff b).1 hb
      have : isNaN (b % 9223372036854775808) = true := (isNaN_iff _).2 (by omega)
      simp [cn, absF, canon, hb, this]
    · simp [cn, hb]
  refine good_lift1 (sp_m_Abs (s_m_Abs N)) (fun x => .flt (absF x)) h rfl (fun a k hk => ?_) (fun b k => ?_) (fun b => by rw [q])
  · unfold sp_m_Abs at hk; split at hk
    · exact ⟨_, rfl, hk⟩
    · cases hk
  · have e : FZ125 (sZ125 N) [.val (.float .f64 b)] [] k = sZ125 N b (fun r0 => k (.flt r0) []) := by kernel_rfl
    rw [e, law_Abs, q]

end Go.Proofs.YtgngdkjghdohiaaGreat
end
section
namespace Go.Proofs.YtgngdkjghdohiaaGreat
open Go Go.Mach Go.Proofs
set_option linter.unusedVariables false

theorem g_an_of (N : Nat) : GoodF Pg 198 (F_an_of (s_an_of N)) := good_an_of N
theorem gZ104 (N : Nat) : GoodF Pg 227 (FZ104 (sZ104 N)) := goodZ104 N
theorem gZ44 (N : Nat) : GoodF Pg 229 (FZ44 (sZ44 N)) := goodZ44 N
theorem gZ42 (N : Nat) : GoodF Pg 219 (FZ42 (sZ42 N)) := goodZ42 N _ _ (gZ104 N) (gZ44 N)
theorem gZ72 (N : Nat) : GoodF Pg 228 (FZ72 (sZ72 N)) := goodZ72 N
theorem gZ120 (N : Nat) : GoodF Pg 220 (FZ120 (sZ120 N)) := goodZ120 N _ _ (gZ44 N) (gZ72 N)
theorem gZ18 (N : Nat) : GoodF Pg 201 (FZ18 (sZ18 N)) := goodZ18 N _ _ (gZ42 N) (gZ120 N)
theorem gZ27 (N : Nat) : GoodF Pg 218 (FZ27 (sZ27 N)) := goodZ27 N _ _ _ (gZ18 N) (gZ104 N) (gZ72 N)
theorem gZ26 (N : Nat) : GoodF Pg 197 (FZ26 (sZ26 N)) := goodZ26 N _ (gZ27 N)
theorem gZ112 (N : Nat) : GoodF Pg 159 (FZ112 (sZ112 N)) := goodZ112 N _ _ _ (gZ78 N) (g_an_of N) (gZ26 N)
theorem gZ125 (N : Nat) : GoodF Pg 35 (FZ125 (sZ125 N)) := goodZ125 N _ _ (gZ78 N) (gZ30 N)
theorem gZ61 (N : Nat) : GoodF Pg 6 (FZ61 (sZ61 N)) := goodZ61 N _ (gZ30 N)
theorem gZ108 (N : Nat) : GoodF Pg 5 (FZ108 (sZ108 N)) := goodZ108 N
theorem g_zl_f (N : Nat) : GoodF Pg 32 (F_zl_f (s_zl_f N)) := good_zl_f N _ (gZ30 N)
theorem gZ107 (N : Nat) : GoodF Pg 7 (FZ107 (sZ107 N)) := goodZ107 N _ (g_zl_f N)
theorem gZ64 (N : Nat) : GoodF Pg 86 (FZ64 (sZ64 N)) := goodZ64 N
theorem gZ111 (N : Nat) : GoodF Pg 200 (FZ111 (sZ111 N)) := goodZ111 N _ (gZ57 N)
theorem gZ45 (N : Nat) : GoodF Pg 161 (FZ45 (sZ45 N)) := goodZ45 N _ (gZ111 N)
theorem gZ68 (N : Nat) : GoodF Pg 203 (FZ68 (sZ68 N)) := goodZ68 N
theorem gZ97 (N : Nat) : GoodF Pg 180 (FZ97 (sZ97 N)) := goodZ97 N _ _ (gZ45 N) (gZ68 N)
theorem gZ53 (N : Nat) : GoodF Pg 133 (FZ53 (sZ53 N)) := goodZ53 N _ (gZ97 N)
theorem gZ46 (N : Nat) : GoodF Pg 76 (FZ46 (sZ46 N)) := goodZ46 N _ (gZ53 N)
theorem gZ87 (N : Nat) : GoodF Pg 33 (FZ87 (sZ87 N)) := goodZ87 N _ _ (gZ64 N) (gZ46 N)
theorem gZ41 (N : Nat) : GoodF Pg 41 (FZ41 (sZ41 N)) := goodZ41 N
theorem gZ94 (N : Nat) : GoodF Pg 162 (FZ94 (sZ94 N)) := goodZ94 N
theorem gZ88 (N : Nat) : GoodF Pg 94 (FZ88 (sZ88 N)) := goodZ88 N _ _ (gZ45 N) (gZ94 N)
theorem gZ7 (N : Nat) : GoodF Pg 164 (FZ7 (sZ7 N)) := goodZ7 N
theorem gZ71 (N : Nat) : GoodF Pg 163 (FZ71 (sZ71 N)) := goodZ71 N _ (gZ7 N)
theorem gZ118 (N : Nat) : GoodF Pg 164 (FZ118 (sZ118 N)) := goodZ118 N
theorem gZ14 (N : Nat) : GoodF Pg 96 (FZ14 (sZ14 N)) := goodZ14 N _ (gZ118 N)
theorem gZ24 (N : Nat) : GoodF Pg 95 (FZ24 (sZ24 N)) := goodZ24 N _ _ (gZ71 N) (gZ14 N)
theorem gZ69 (N : Nat) : GoodF Pg 96 (FZ69 (sZ69 N)) := goodZ69 N _ (gZ7 N)
theorem gZ66 (N : Nat) : GoodF Pg 45 (FZ66 (sZ66 N)) := goodZ66 N _ (gZ69 N)
theorem gZ102 (N : Nat) : GoodF Pg 40 (FZ102 (sZ102 N)) := goodZ102 N _ _ _ (gZ88 N) (gZ24 N) (gZ66 N)
theorem gZ60 (N : Nat) : GoodF Pg 97 (FZ60 (sZ60 N)) := goodZ60 N _ (gZ7 N)
theorem gZ28 (N : Nat) : GoodF Pg 42 (FZ28 (sZ28 N)) := goodZ28 N _ _ (gZ60 N) (gZ14 N)
theorem gZ1 (N : Nat) : GoodF Pg 13 (FZ1 (sZ1 N)) := goodZ1 N _ (gZ28 N)
theorem gZ77 (N : Nat) : GoodF Pg 14 (FZ77 (sZ77 N)) := goodZ77 N
theorem gZ11 (N : Nat) : GoodF Pg 14 (FZ11 (sZ11 N)) := goodZ11 N
theorem gZ105 (N : Nat) : GoodF Pg 168 (FZ105 (sZ105 N)) := goodZ105 N _ (gZ7 N)
theorem gZ51 (N : Nat) : GoodF Pg 99 (FZ51 (sZ51 N)) := goodZ51 N _ _ (gZ105 N) (gZ14 N)
theorem gZ13 (N : Nat) : GoodF Pg 44 (FZ13 (sZ13 N)) := goodZ13 N _ (gZ51 N)
theorem gZ106 (N : Nat) : GoodF Pg 165 (FZ106 (sZ106 N)) := goodZ106 N _ (gZ7 N)
theorem gZ70 (N : Nat) : GoodF Pg 166 (FZ70 (sZ70 N)) := goodZ70 N
theorem gZ89 (N : Nat) : GoodF Pg 167 (FZ89 (sZ89 N)) := goodZ89 N _ (gZ7 N)
theorem gZ29 (N : Nat) : GoodF Pg 98 (FZ29 (sZ29 N)) := goodZ29 N _ _ _ _ (gZ106 N) (gZ14 N) (gZ70 N) (gZ89 N)
theorem gZ16 (N : Nat) : GoodF Pg 43 (FZ16 (sZ16 N)) := goodZ16 N _ (gZ29 N)
theorem gZ2 (N : Nat) : GoodF Pg 15 (FZ2 (sZ2 N)) := goodZ2 N _ _ _ _ (gZ77 N) (gZ11 N) (gZ13 N) (gZ16 N)
theorem gZ0 (N : Nat) : GoodF Pg 15 (FZ0 (sZ0 N)) := goodZ0 N _ _ _ (gZ11 N) (gZ13 N) (gZ16 N)
theorem gZ119 (N : Nat) : GoodF Pg 87 (FZ119 (sZ119 N)) := goodZ119 N _ _ _ _ _ (gZ41 N) (gZ102 N) (gZ1 N) (gZ2 N) (gZ0 N)
theorem gZ36 (N : Nat) : GoodF Pg 100 (FZ36 (sZ36 N)) := goodZ36 N _ _ (gZ71 N) (gZ14 N)
theorem gZ47 (N : Nat) : GoodF Pg 46 (FZ47 (sZ47 N)) := goodZ47 N _ (gZ36 N)
theorem gZ98 (N : Nat) : GoodF Pg 88 (FZ98 (sZ98 N)) := goodZ98 N _ (gZ47 N)
theorem gZ32 (N : Nat) : GoodF Pg 96 (FZ32 (sZ32 N)) := goodZ32 N _ (gZ7 N)
theorem gZ50 (N : Nat) : GoodF Pg 155 (FZ50 (sZ50 N)) := goodZ50 N _ (gZ32 N)
theorem gZ20 (N : Nat) : GoodF Pg 89 (FZ20 (sZ20 N)) := goodZ20 N _ (gZ50 N)
theorem gZ76 (N : Nat) : GoodF Pg 34 (FZ76 (sZ76 N)) := goodZ76 N _ _ _ _ _ (gZ64 N) (gZ119 N) (gZ98 N) (gZ0 N) (gZ20 N)
theorem gZ23 (N : Nat) : GoodF Pg 18 (FZ23 (sZ23 N)) := goodZ23 N _ (gZ47 N)
theorem gZ52 (N : Nat) : GoodF Pg 45 (FZ52 (sZ52 N)) := goodZ52 N _ (gZ32 N)
theorem gZ6 (N : Nat) : GoodF Pg 16 (FZ6 (sZ6 N)) := goodZ6 N _ (gZ52 N)
theorem gZ4 (N : Nat) : GoodF Pg 17 (FZ4 (sZ4 N)) := goodZ4 N _ _ _ (gZ6 N) (gZ0 N) (gZ11 N)
theorem gZ63 (N : Nat) : GoodF Pg 8 (FZ63 (sZ63 N)) := goodZ63 N _ _ _ _ (gZ87 N) (gZ76 N) (gZ23 N) (gZ4 N)
theorem g_m_Abs (N : Nat) : GoodF Pg 35 (F_m_Abs (s_m_Abs N)) := x_m_Abs N (gZ125 N)
theorem gZ62 (N : Nat) : GoodF Pg 103 (FZ62 (sZ62 N)) := goodZ62 N _ (g_m_Abs N)
theorem gZ84 (N : Nat) : GoodF Pg 110 (FZ84 (sZ84 N)) := goodZ84 N
theorem gZ21 (N : Nat) : GoodF Pg 111 (FZ21 (sZ21 N)) := goodZ21 N _ (g_m_Abs N)
theorem gZ56 (N : Nat) : GoodF Pg 112 (FZ56 (sZ56 N)) := goodZ56 N _ _ (gZ57 N) (gZ30 N)
theorem g_m_Inf (N : Nat) : GoodF Pg 113 (F_m_Inf (s_m_Inf N)) := good_m_Inf N _ (gZ30 N)
theorem gZ115 (N : Nat) : GoodF Pg 61 (FZ115 (sZ115 N)) := goodZ115 N _ _ _ _ _ _ _ (gZ62 N) (gZ84 N) (gZ21 N) (gZ57 N) (gZ56 N) (g_m_Inf N) (gZ30 N)
theorem gZ19 (N : Nat) : GoodF Pg 22 (FZ19 (sZ19 N)) := goodZ19 N _ (gZ115 N)
theorem gZ65 (N : Nat) : GoodF Pg 9 (FZ65 (sZ65 N)) := goodZ65 N _ _ (g_m_Abs N) (gZ19 N)
theorem gZ8 (N : Nat) : GoodF Pg 48 (FZ8 (sZ8 N)) := goodZ8 N
theorem gZ15 (N : Nat) : GoodF Pg 47 (FZ15 (sZ15 N)) := goodZ15 N _ (gZ8 N)
theorem gZ91 (N : Nat) : GoodF Pg 156 (FZ91 (sZ91 N)) := goodZ91 N
theorem gZ121 (N : Nat) : GoodF Pg 196 (FZ121 (sZ121 N)) := goodZ121 N _ _ _ _ _ (gZ62 N) (gZ84 N) (gZ21 N) (gZ57 N) (gZ30 N)
theorem gZ74 (N : Nat) : GoodF Pg 157 (FZ74 (sZ74 N)) := goodZ74 N _ (gZ121 N)
theorem gZ103 (N : Nat) : GoodF Pg 153 (FZ103 (sZ103 N)) := goodZ103 N _ (gZ130 N)
theorem gZ96 (N : Nat) : GoodF Pg 158 (FZ96 (sZ96 N)) := goodZ96 N
theorem gZ34 (N : Nat) : GoodF Pg 91 (FZ34 (sZ34 N)) := goodZ34 N _ _ _ _ _ _ _ (gZ15 N) (gZ91 N) (g_m_Abs N) (gZ74 N) (gZ19 N) (gZ103 N) (gZ96 N)
theorem gZ93 (N : Nat) : GoodF Pg 159 (FZ93 (sZ93 N)) := xZ93 N (gZ112 N)
theorem gZ17 (N : Nat) : GoodF Pg 92 (FZ17 (sZ17 N)) := goodZ17 N _ (gZ93 N)
theorem gZ80 (N : Nat) : GoodF Pg 117 (FZ80 (sZ80 N)) := goodZ80 N _ (gZ17 N)
theorem gZ10 (N : Nat) : GoodF Pg 199 (FZ10 (sZ10 N)) := goodZ10 N
theorem gZ35 (N : Nat) : GoodF Pg 174 (FZ35 (sZ35 N)) := goodZ35 N _ (gZ10 N)
theorem gZ79 (N : Nat) : GoodF Pg 160 (FZ79 (sZ79 N)) := goodZ79 N _ _ (gZ80 N) (gZ35 N)
theorem gZ101 (N : Nat) : GoodF Pg 93 (FZ101 (sZ101 N)) := goodZ101 N _ (gZ79 N)
theorem gZ114 (N : Nat) : GoodF Pg 36 (FZ114 (sZ114 N)) := goodZ114 N _ _ _ (gZ34 N) (gZ17 N) (gZ101 N)
theorem gZ123 (N : Nat) : GoodF Pg 37 (FZ123 (sZ123 N)) := goodZ123 N _ (gZ17 N)
theorem gZ99 (N : Nat) : GoodF Pg 39 (FZ99 (sZ99 N)) := goodZ99 N _ (gZ57 N)
theorem gZ109 (N : Nat) : GoodF Pg 38 (FZ109 (sZ109 N)) := goodZ109 N _ _ (gZ64 N) (gZ99 N)
theorem gZ55 (N : Nat) : GoodF Pg 10 (FZ55 (sZ55 N)) := goodZ55 N _ _ _ _ (gZ114 N) (gZ123 N) (gZ109 N) (gZ99 N)
theorem gZ67 (N : Nat) : GoodF Pg 11 (FZ67 (sZ67 N)) := goodZ67 N _ (gZ102 N)
theorem gZ40 (N : Nat) : GoodF Pg 42 (FZ40 (sZ40 N)) := goodZ40 N _ _ (gZ60 N) (gZ14 N)
theorem gZ5 (N : Nat) : GoodF Pg 13 (FZ5 (sZ5 N)) := goodZ5 N _ (gZ40 N)
theorem gZ9 (N : Nat) : GoodF Pg 12 (FZ9 (sZ9 N)) := goodZ9 N _ _ _ _ (gZ41 N) (gZ5 N) (gZ2 N) (gZ0 N)
theorem gZ3 (N : Nat) : GoodF Pg 12 (FZ3 (sZ3 N)) := goodZ3 N _ _ _ _ (gZ41 N) (gZ1 N) (gZ2 N) (gZ0 N)
theorem gZ49 (N : Nat) : GoodF Pg 49 (FZ49 (sZ49 N)) := goodZ49 N
theorem gZ81 (N : Nat) : GoodF Pg 50 (FZ81 (sZ81 N)) := goodZ81 N _ (gZ8 N)
theorem gZ38 (N : Nat) : GoodF Pg 19 (FZ38 (sZ38 N)) := goodZ38 N _ _ _ _ (gZ15 N) (gZ8 N) (gZ49 N) (gZ81 N)
theorem gZ22 (N : Nat) : GoodF Pg 51 (FZ22 (sZ22 N)) := goodZ22 N _ (gZ17 N)
theorem gZ117 (N : Nat) : GoodF Pg 107 (FZ117 (sZ117 N)) := goodZ117 N _ (gZ17 N)
theorem gZ100 (N : Nat) : GoodF Pg 169 (FZ100 (sZ100 N)) := goodZ100 N _ _ (g_m_Abs N) (gZ74 N)
theorem gZ86 (N : Nat) : GoodF Pg 170 (FZ86 (sZ86 N)) := goodZ86 N _ _ (gZ19 N) (gZ103 N)
theorem gZ85 (N : Nat) : GoodF Pg 108 (FZ85 (sZ85 N)) := goodZ85 N _ _ _ (gZ100 N) (gZ86 N) (gZ19 N)
theorem gZ92 (N : Nat) : GoodF Pg 109 (FZ92 (sZ92 N)) := goodZ92 N
theorem gZ54 (N : Nat) : GoodF Pg 59 (FZ54 (sZ54 N)) := goodZ54 N _ _ _ (gZ117 N) (gZ85 N) (gZ92 N)
theorem gZ58 (N : Nat) : GoodF Pg 101 (FZ58 (sZ58 N)) := goodZ58 N _ (gZ54 N)
theorem gZ82 (N : Nat) : GoodF Pg 102 (FZ82 (sZ82 N)) := goodZ82 N _ _ _ (gZ8 N) (gZ49 N) (gZ81 N)
theorem gZ116 (N : Nat) : GoodF Pg 52 (FZ116 (sZ116 N)) := goodZ116 N _ _ _ (gZ58 N) (gZ82 N) (gZ22 N)
theorem gZ48 (N : Nat) : GoodF Pg 53 (FZ48 (sZ48 N)) := goodZ48 N _ (gZ62 N)
theorem gZ39 (N : Nat) : GoodF Pg 54 (FZ39 (sZ39 N)) := goodZ39 N _ (gZ48 N)
theorem gZ83 (N : Nat) : GoodF Pg 55 (FZ83 (sZ83 N)) := goodZ83 N
theorem gZ73 (N : Nat) : GoodF Pg 115 (FZ73 (sZ73 N)) := goodZ73 N
theorem gZ25 (N : Nat) : GoodF Pg 63 (FZ25 (sZ25 N)) := goodZ25 N _ _ (gZ73 N) (gZ17 N)
theorem gZ12 (N : Nat) : GoodF Pg 104 (FZ12 (sZ12 N)) := goodZ12 N
theorem gZ43 (N : Nat) : GoodF Pg 105 (FZ43 (sZ43 N)) := goodZ43 N _ (gZ15 N)
theorem gZ75 (N : Nat) : GoodF Pg 56 (FZ75 (sZ75 N)) := goodZ75 N _ _ _ _ _ (gZ25 N) (gZ12 N) (gZ8 N) (gZ43 N) (gZ34 N)
theorem gZ59 (N : Nat) : GoodF Pg 20 (FZ59 (sZ59 N)) := goodZ59 N _ _ _ _ _ _ (gZ22 N) (gZ116 N) (gZ39 N) (gZ48 N) (gZ83 N) (gZ75 N)
theorem gZ31 (N : Nat) : GoodF Pg 47 (FZ31 (sZ31 N)) := goodZ31 N _ (gZ8 N)
theorem gZ95 (N : Nat) : GoodF Pg 57 (FZ95 (sZ95 N)) := goodZ95 N _ (gZ15 N)
theorem gZ113 (N : Nat) : GoodF Pg 106 (FZ113 (sZ113 N)) := goodZ113 N
theorem gZ110 (N : Nat) : GoodF Pg 58 (FZ110 (sZ110 N)) := goodZ110 N _ _ _ (gZ31 N) (gZ113 N) (gZ43 N)
theorem gZ33 (N : Nat) : GoodF Pg 21 (FZ33 (sZ33 N)) := goodZ33 N _ _ _ _ (gZ31 N) (gZ95 N) (gZ110 N) (gZ54 N)
theorem tZ37 (N : Nat) (q_0 q_1 q_2 q_3 x_0 x_1 x_2 y_0 y_1 y_2 : Int) (hG : sZ37 N q_0 q_1 q_2 q_3 x_0 x_1 x_2 y_0 y_1 y_2 (fun b => b) = true) : OkC Pg 3 (shFZ37.args [.int q_0, .int q_1, .int q_2, .int q_3, .int x_0, .int x_1, .int x_2, .int y_0, .int y_1, .int y_2]) [] (.bool true) [] :=
  topZ37 N _ _ _ _ _ _ _ _ _ _ _ _ _ _ _ _ _ _ _ _ (gZ61 N) (gZ108 N) (gZ107 N) (gZ63 N) (gZ65 N) (gZ55 N) (gZ67 N) (gZ9 N) (gZ1 N) (gZ3 N) (gZ11 N) (gZ5 N) (gZ6 N) (gZ0 N) (gZ23 N) (gZ4 N) (gZ38 N) (gZ59 N) (gZ33 N) (gZ19 N) q_0 q_1 q_2 q_3 x_0 x_1 x_2 y_0 y_1 y_2 hG
end Go.Proofs.YtgngdkjghdohiaaGreat
end
