/-
  The program's functions without a body, and those that look at bits, tied to their meanings.
  Conditions: none.
-/
import Derived.Test.YtnfgnjciliapaaaGreatDoorGs
import Derived.Test.YtnfgnjciliapaaaGreatDoorMachP
import Derived.Test.YtnfgnjciliapaaaGreatDoorL1
import Derived.Test.YtnfgnjciliapaaaGreatDoorGt0
import Derived.Test.YtnfgnjciliapaaaGreatDoorGt1
import Derived.Test.YtnfgnjciliapaaaGreatDoorGt2
import Derived.Test.YtnfgnjciliapaaaGreatDoorGt3
import Derived.Test.YtnfgnjciliapaaaGreatDoorGt4
section
namespace Go.Proofs.YtnfgnjciliapaaaGreatDoor
open Go Go.Mach Go.Proofs
set_option maxRecDepth 20000

theorem gQ128 (N : Nat) : GoodF Pg 95 (FQ128 (sQ128 N)) :=
  good_mono (good_bits_fb (fn := Tryz.f95) (by kernel_rfl) (by kernel_rfl) (by kernel_rfl) (by kernel_rfl) (by kernel_rfl)) fun a k h => by
    unfold spQ128 at h; split at h
    · exact h
    · cases h
theorem gQ102 (N : Nat) : GoodF Pg 95 (FQ102 (sQ102 N)) :=
  good_mono (good_bits (fn := Tryz.f95) (by kernel_rfl) (by kernel_rfl) (by kernel_rfl) (by kernel_rfl) (by kernel_rfl)) fun a k h => by
    unfold spQ102 sQ102 at h; split at h
    · split at h
      · exact h
      · cases h
    · cases h
theorem gQ79 (N : Nat) : GoodF Pg 82 (FQ79 (sQ79 N)) :=
  good_mono (good_frombits (fn := Tryz.f82) (by kernel_rfl) (by kernel_rfl) (by kernel_rfl) (by kernel_rfl) (by kernel_rfl)) fun a k h => by
    unfold spQ79 at h; split at h
    · exact h
    · cases h
theorem gQ155 (N : Nat) : GoodF Pg 124 (FQ155 (sQ155 N)) :=
  good_mono (good_sqrt (fn := Tryz.f124) (by kernel_rfl) (by kernel_rfl) (by kernel_rfl) (by kernel_rfl) (by kernel_rfl) sqrt_nan) fun a k h => by
    unfold spQ155 at h; split at h
    · exact h
    · cases h
theorem gQ61 (N : Nat) : GoodF Pg 183 (FQ61 (sQ61 N)) :=
  good_mono (good_add64 (fn := Tryz.f183) (by kernel_rfl) (by kernel_rfl) (by kernel_rfl) (by kernel_rfl) (by kernel_rfl)) fun a k h => by
    unfold spQ61 at h; split at h
    · exact h
    · cases h
theorem gQ81 (N : Nat) : GoodF Pg 191 (FQ81 (sQ81 N)) :=
  good_mono (good_sub64 (fn := Tryz.f191) (by kernel_rfl) (by kernel_rfl) (by kernel_rfl) (by kernel_rfl) (by kernel_rfl)) fun a k h => by
    unfold spQ81 at h; split at h
    · exact h
    · cases h
theorem xQ122 (N : Nat) (h : GoodF Pg 126 (FQ136 (sQ136 N))) : GoodF Pg 126 (FQ122 (sQ122 N)) := by
  have q : ∀ b, clsF (cn (some b)) = clsF (some b) := by
    intro b; by_cases hb : isNaN b = true <;> simp [cn, clsF, cls, hb]
  refine good_lift1 (spQ122 (sQ122 N)) (fun x => .int .i64 (clsF x)) h rfl (fun a k hk => ?_) (fun b k => ?_) (fun b => by rw [q])
  · unfold spQ122 at hk; split at hk
    · exact ⟨_, rfl, hk⟩
    · cases hk
  · have e : FQ136 (sQ136 N) [.val (.float .f64 b)] [] k = sQ136 N b (fun r0 => k (.int .i64 r0) []) := by kernel_rfl
    rw [e, law_Class, q]; rfl
theorem x_m_Abs (N : Nat) (h : GoodF Pg 47 (FQ149 (sQ149 N))) : GoodF Pg 47 (F_m_Abs (s_m_Abs N)) := by
  have q : ∀ b, absF (cn (some b)) = absF (some b) := by
    intro b
    by_cases hb : isNaN b = true
    · have hb' := (isNaN_iff b).1 hb
      have : isNaN (b % 9223372036854775808) = true := (isNaN_iff _).2 (by omega)
      simp [cn, absF, canon, hb, this]
    · simp [cn, hb]
  refine good_lift1 (sp_m_Abs (s_m_Abs N)) (fun x => .flt (absF x)) h rfl (fun a k hk => ?_) (fun b k => ?_) (fun b => by rw [q])
  · unfold sp_m_Abs at hk; split at hk
    · exact ⟨_, rfl, hk⟩
    · cases hk
  · have e : FQ149 (sQ149 N) [.val (.float .f64 b)] [] k = sQ149 N b (fun r0 => k (.flt r0) []) := by kernel_rfl
    rw [e, law_Abs, q]

end Go.Proofs.YtnfgnjciliapaaaGreatDoor
end
section
namespace Go.Proofs.YtnfgnjciliapaaaGreatDoor
open Go Go.Mach Go.Proofs
set_option linter.unusedVariables false

theorem g_an_of (N : Nat) : GoodF Pg 155 (F_an_of (s_an_of N)) := good_an_of N
theorem gQ129 (N : Nat) : GoodF Pg 190 (FQ129 (sQ129 N)) := goodQ129 N
theorem gQ78 (N : Nat) : GoodF Pg 209 (FQ78 (sQ78 N)) := goodQ78 N
theorem gQ76 (N : Nat) : GoodF Pg 201 (FQ76 (sQ76 N)) := goodQ76 N _ _ (gQ129 N) (gQ78 N)
theorem gQ63 (N : Nat) : GoodF Pg 179 (FQ63 (sQ63 N)) := goodQ63 N
theorem gQ143 (N : Nat) : GoodF Pg 202 (FQ143 (sQ143 N)) := goodQ143 N _ _ (gQ78 N) (gQ63 N)
theorem gQ66 (N : Nat) : GoodF Pg 189 (FQ66 (sQ66 N)) := goodQ66 N _ _ (gQ76 N) (gQ143 N)
theorem gQ25 (N : Nat) : GoodF Pg 176 (FQ25 (sQ25 N)) := goodQ25 N _ _ _ (gQ66 N) (gQ129 N) (gQ63 N)
theorem gQ24 (N : Nat) : GoodF Pg 154 (FQ24 (sQ24 N)) := goodQ24 N _ (gQ25 N)
theorem gQ136 (N : Nat) : GoodF Pg 126 (FQ136 (sQ136 N)) := goodQ136 N _ _ _ (gQ128 N) (g_an_of N) (gQ24 N)
theorem gQ149 (N : Nat) : GoodF Pg 47 (FQ149 (sQ149 N)) := goodQ149 N _ _ (gQ128 N) (gQ79 N)
theorem gQ29 (N : Nat) : GoodF Pg 48 (FQ29 (sQ29 N)) := goodQ29 N
theorem gQ7 (N : Nat) : GoodF Pg 42 (FQ7 (sQ7 N)) := goodQ7 N _ (gQ29 N)
theorem gQ53 (N : Nat) : GoodF Pg 43 (FQ53 (sQ53 N)) := goodQ53 N
theorem g_m_Abs (N : Nat) : GoodF Pg 47 (F_m_Abs (s_m_Abs N)) := x_m_Abs N (gQ149 N)
theorem gQ108 (N : Nat) : GoodF Pg 110 (FQ108 (sQ108 N)) := goodQ108 N _ (g_m_Abs N)
theorem gQ114 (N : Nat) : GoodF Pg 111 (FQ114 (sQ114 N)) := goodQ114 N
theorem gQ59 (N : Nat) : GoodF Pg 112 (FQ59 (sQ59 N)) := goodQ59 N _ (g_m_Abs N)
theorem gQ145 (N : Nat) : GoodF Pg 123 (FQ145 (sQ145 N)) := goodQ145 N _ _ _ _ _ (gQ108 N) (gQ114 N) (gQ59 N) (gQ102 N) (gQ79 N)
theorem gQ138 (N : Nat) : GoodF Pg 75 (FQ138 (sQ138 N)) := goodQ138 N _ (gQ145 N)
theorem gQ87 (N : Nat) : GoodF Pg 113 (FQ87 (sQ87 N)) := goodQ87 N _ _ (gQ102 N) (gQ79 N)
theorem g_m_Inf (N : Nat) : GoodF Pg 114 (F_m_Inf (s_m_Inf N)) := good_m_Inf N _ (gQ79 N)
theorem gQ140 (N : Nat) : GoodF Pg 64 (FQ140 (sQ140 N)) := goodQ140 N _ _ _ _ _ _ _ (gQ108 N) (gQ114 N) (gQ59 N) (gQ102 N) (gQ87 N) (g_m_Inf N) (gQ79 N)
theorem gQ109 (N : Nat) : GoodF Pg 26 (FQ109 (sQ109 N)) := goodQ109 N _ (gQ140 N)
theorem gQ148 (N : Nat) : GoodF Pg 76 (FQ148 (sQ148 N)) := goodQ148 N _ (gQ155 N)
theorem gQ124 (N : Nat) : GoodF Pg 77 (FQ124 (sQ124 N)) := goodQ124 N
theorem gQ85 (N : Nat) : GoodF Pg 35 (FQ85 (sQ85 N)) := goodQ85 N _ _ _ _ _ _ _ (gQ7 N) (gQ53 N) (g_m_Abs N) (gQ138 N) (gQ109 N) (gQ148 N) (gQ124 N)
theorem gQ115 (N : Nat) : GoodF Pg 49 (FQ115 (sQ115 N)) := goodQ115 N
theorem gQ133 (N : Nat) : GoodF Pg 50 (FQ133 (sQ133 N)) := goodQ133 N _ (gQ29 N)
theorem gQ77 (N : Nat) : GoodF Pg 13 (FQ77 (sQ77 N)) := goodQ77 N _ _ _ _ (gQ7 N) (gQ29 N) (gQ115 N) (gQ133 N)
theorem gQ90 (N : Nat) : GoodF Pg 42 (FQ90 (sQ90 N)) := goodQ90 N _ (gQ29 N)
theorem gQ137 (N : Nat) : GoodF Pg 83 (FQ137 (sQ137 N)) := goodQ137 N
theorem gQ125 (N : Nat) : GoodF Pg 72 (FQ125 (sQ125 N)) := goodQ125 N _ (gQ7 N)
theorem gQ110 (N : Nat) : GoodF Pg 40 (FQ110 (sQ110 N)) := goodQ110 N _ _ _ (gQ90 N) (gQ137 N) (gQ125 N)
theorem gQ122 (N : Nat) : GoodF Pg 126 (FQ122 (sQ122 N)) := xQ122 N (gQ136 N)
theorem gQ92 (N : Nat) : GoodF Pg 84 (FQ92 (sQ92 N)) := goodQ92 N _ (gQ122 N)
theorem gQ6 (N : Nat) : GoodF Pg 180 (FQ6 (sQ6 N)) := goodQ6 N
theorem gQ60 (N : Nat) : GoodF Pg 157 (FQ60 (sQ60 N)) := goodQ60 N _ _ _ _ (gQ25 N) (gQ24 N) (gQ63 N) (gQ6 N)
theorem gQ134 (N : Nat) : GoodF Pg 129 (FQ134 (sQ134 N)) := goodQ134 N _ _ _ (gQ102 N) (g_an_of N) (gQ60 N)
theorem gQ1 (N : Nat) : GoodF Pg 167 (FQ1 (sQ1 N)) := goodQ1 N
theorem gQ112 (N : Nat) : GoodF Pg 158 (FQ112 (sQ112 N)) := goodQ112 N _ (gQ1 N)
theorem gQ0 (N : Nat) : GoodF Pg 139 (FQ0 (sQ0 N)) := goodQ0 N
theorem gQ48 (N : Nat) : GoodF Pg 130 (FQ48 (sQ48 N)) := goodQ48 N _ _ (gQ112 N) (gQ0 N)
theorem gQ65 (N : Nat) : GoodF Pg 140 (FQ65 (sQ65 N)) := goodQ65 N
theorem gQ28 (N : Nat) : GoodF Pg 139 (FQ28 (sQ28 N)) := goodQ28 N
theorem gQ22 (N : Nat) : GoodF Pg 91 (FQ22 (sQ22 N)) := goodQ22 N _ _ (gQ65 N) (gQ28 N)
theorem gQ127 (N : Nat) : GoodF Pg 86 (FQ127 (sQ127 N)) := goodQ127 N _ _ _ (gQ134 N) (gQ48 N) (gQ22 N)
theorem gQ93 (N : Nat) : GoodF Pg 192 (FQ93 (sQ93 N)) := goodQ93 N
theorem gQ88 (N : Nat) : GoodF Pg 181 (FQ88 (sQ88 N)) := goodQ88 N _ _ (gQ93 N) (gQ61 N)
theorem gQ119 (N : Nat) : GoodF Pg 159 (FQ119 (sQ119 N)) := goodQ119 N _ _ (gQ88 N) (gQ1 N)
theorem gQ49 (N : Nat) : GoodF Pg 131 (FQ49 (sQ49 N)) := goodQ49 N _ _ (gQ119 N) (gQ0 N)
theorem gQ13 (N : Nat) : GoodF Pg 87 (FQ13 (sQ13 N)) := goodQ13 N _ (gQ49 N)
theorem gQ69 (N : Nat) : GoodF Pg 94 (FQ69 (sQ69 N)) := goodQ69 N
theorem gQ4 (N : Nat) : GoodF Pg 94 (FQ4 (sQ4 N)) := goodQ4 N
theorem gQ89 (N : Nat) : GoodF Pg 169 (FQ89 (sQ89 N)) := goodQ89 N _ (gQ1 N)
theorem gQ58 (N : Nat) : GoodF Pg 141 (FQ58 (sQ58 N)) := goodQ58 N _ _ (gQ89 N) (gQ0 N)
theorem gQ30 (N : Nat) : GoodF Pg 128 (FQ30 (sQ30 N)) := goodQ30 N _ (gQ58 N)
theorem gQ14 (N : Nat) : GoodF Pg 170 (FQ14 (sQ14 N)) := goodQ14 N
theorem gQ126 (N : Nat) : GoodF Pg 166 (FQ126 (sQ126 N)) := goodQ126 N _ _ _ (gQ14 N) (gQ61 N) (gQ1 N)
theorem gQ98 (N : Nat) : GoodF Pg 177 (FQ98 (sQ98 N)) := goodQ98 N
theorem gQ130 (N : Nat) : GoodF Pg 178 (FQ130 (sQ130 N)) := goodQ130 N _ _ _ (gQ14 N) (gQ81 N) (gQ1 N)
theorem gQ56 (N : Nat) : GoodF Pg 156 (FQ56 (sQ56 N)) := goodQ56 N _ _ _ _ (gQ126 N) (gQ0 N) (gQ98 N) (gQ130 N)
theorem gQ23 (N : Nat) : GoodF Pg 127 (FQ23 (sQ23 N)) := goodQ23 N _ (gQ56 N)
theorem gQ15 (N : Nat) : GoodF Pg 85 (FQ15 (sQ15 N)) := goodQ15 N _ _ _ _ (gQ69 N) (gQ4 N) (gQ30 N) (gQ23 N)
theorem gQ5 (N : Nat) : GoodF Pg 85 (FQ5 (sQ5 N)) := goodQ5 N _ _ _ (gQ4 N) (gQ30 N) (gQ23 N)
theorem gQ32 (N : Nat) : GoodF Pg 160 (FQ32 (sQ32 N)) := goodQ32 N _ _ (gQ65 N) (gQ0 N)
theorem gQ50 (N : Nat) : GoodF Pg 161 (FQ50 (sQ50 N)) := goodQ50 N _ (gQ14 N)
theorem gQ8 (N : Nat) : GoodF Pg 162 (FQ8 (sQ8 N)) := goodQ8 N _ (gQ6 N)
theorem gQ116 (N : Nat) : GoodF Pg 165 (FQ116 (sQ116 N)) := goodQ116 N _ _ (gQ14 N) (gQ1 N)
theorem gQ11 (N : Nat) : GoodF Pg 136 (FQ11 (sQ11 N)) := goodQ11 N _ _ _ (gQ116 N) (gQ126 N) (gQ28 N)
theorem gQ17 (N : Nat) : GoodF Pg 132 (FQ17 (sQ17 N)) := goodQ17 N _ _ _ _ _ (gQ32 N) (gQ4 N) (gQ50 N) (gQ8 N) (gQ11 N)
theorem gQ80 (N : Nat) : GoodF Pg 182 (FQ80 (sQ80 N)) := goodQ80 N
theorem gQ117 (N : Nat) : GoodF Pg 163 (FQ117 (sQ117 N)) := goodQ117 N _ (gQ80 N)
theorem gQ34 (N : Nat) : GoodF Pg 133 (FQ34 (sQ34 N)) := goodQ34 N _ (gQ117 N)
theorem gQ54 (N : Nat) : GoodF Pg 164 (FQ54 (sQ54 N)) := goodQ54 N _ _ (gQ112 N) (gQ0 N)
theorem gQ55 (N : Nat) : GoodF Pg 134 (FQ55 (sQ55 N)) := goodQ55 N _ (gQ54 N)
theorem gQ33 (N : Nat) : GoodF Pg 135 (FQ33 (sQ33 N)) := goodQ33 N _ _ (gQ65 N) (gQ0 N)
theorem gQ39 (N : Nat) : GoodF Pg 139 (FQ39 (sQ39 N)) := goodQ39 N
theorem gQ19 (N : Nat) : GoodF Pg 137 (FQ19 (sQ19 N)) := goodQ19 N _ _ (gQ1 N) (gQ39 N)
theorem gQ144 (N : Nat) : GoodF Pg 168 (FQ144 (sQ144 N)) := goodQ144 N _ (gQ14 N)
theorem gQ35 (N : Nat) : GoodF Pg 138 (FQ35 (sQ35 N)) := goodQ35 N _ (gQ144 N)
theorem gQ9 (N : Nat) : GoodF Pg 88 (FQ9 (sQ9 N)) := goodQ9 N _ _ _ _ _ _ _ _ (gQ17 N) (gQ4 N) (gQ34 N) (gQ55 N) (gQ33 N) (gQ19 N) (gQ35 N) (gQ11 N)
theorem gQ72 (N : Nat) : GoodF Pg 44 (FQ72 (sQ72 N)) := goodQ72 N _ _ _ _ _ _ (gQ92 N) (gQ127 N) (gQ13 N) (gQ15 N) (gQ5 N) (gQ9 N)
theorem gQ111 (N : Nat) : GoodF Pg 92 (FQ111 (sQ111 N)) := goodQ111 N
theorem gQ42 (N : Nat) : GoodF Pg 141 (FQ42 (sQ42 N)) := goodQ42 N _ _ (gQ89 N) (gQ0 N)
theorem gQ40 (N : Nat) : GoodF Pg 139 (FQ40 (sQ40 N)) := goodQ40 N
theorem gQ26 (N : Nat) : GoodF Pg 142 (FQ26 (sQ26 N)) := goodQ26 N _ _ _ (gQ14 N) (gQ1 N) (gQ40 N)
theorem gQ43 (N : Nat) : GoodF Pg 141 (FQ43 (sQ43 N)) := goodQ43 N _ _ (gQ89 N) (gQ28 N)
theorem gQ95 (N : Nat) : GoodF Pg 93 (FQ95 (sQ95 N)) := goodQ95 N _ _ _ _ _ (gQ42 N) (gQ55 N) (gQ26 N) (gQ43 N) (gQ22 N)
theorem gQ38 (N : Nat) : GoodF Pg 91 (FQ38 (sQ38 N)) := goodQ38 N _ _ (gQ65 N) (gQ0 N)
theorem gQ62 (N : Nat) : GoodF Pg 90 (FQ62 (sQ62 N)) := goodQ62 N _ _ (gQ38 N) (gQ5 N)
theorem gQ103 (N : Nat) : GoodF Pg 89 (FQ103 (sQ103 N)) := goodQ103 N _ _ _ _ (gQ111 N) (gQ95 N) (gQ62 N) (gQ9 N)
theorem gQ73 (N : Nat) : GoodF Pg 45 (FQ73 (sQ73 N)) := goodQ73 N _ (gQ103 N)
theorem gQ36 (N : Nat) : GoodF Pg 46 (FQ36 (sQ36 N)) := goodQ36 N _ _ _ _ _ (gQ111 N) (gQ95 N) (gQ38 N) (gQ5 N) (gQ4 N)
theorem gQ71 (N : Nat) : GoodF Pg 11 (FQ71 (sQ71 N)) := goodQ71 N _ _ _ _ _ (gQ7 N) (gQ53 N) (gQ72 N) (gQ73 N) (gQ36 N)
theorem gQ70 (N : Nat) : GoodF Pg 41 (FQ70 (sQ70 N)) := goodQ70 N
theorem gQ45 (N : Nat) : GoodF Pg 8 (FQ45 (sQ45 N)) := goodQ45 N _ _ _ _ _ (gQ85 N) (gQ77 N) (gQ110 N) (gQ71 N) (gQ70 N)
theorem gQ52 (N : Nat) : GoodF Pg 39 (FQ52 (sQ52 N)) := goodQ52 N _ (gQ79 N)
theorem gQ41 (N : Nat) : GoodF Pg 9 (FQ41 (sQ41 N)) := goodQ41 N _ (gQ52 N)
theorem gQ46 (N : Nat) : GoodF Pg 10 (FQ46 (sQ46 N)) := goodQ46 N _ (gQ52 N)
theorem gQ47 (N : Nat) : GoodF Pg 12 (FQ47 (sQ47 N)) := goodQ47 N _ _ (g_m_Abs N) (gQ109 N)
theorem gQ113 (N : Nat) : GoodF Pg 100 (FQ113 (sQ113 N)) := goodQ113 N
theorem gQ135 (N : Nat) : GoodF Pg 151 (FQ135 (sQ135 N)) := goodQ135 N _ (gQ102 N)
theorem gQ101 (N : Nat) : GoodF Pg 115 (FQ101 (sQ101 N)) := goodQ101 N _ (gQ135 N)
theorem gQ123 (N : Nat) : GoodF Pg 116 (FQ123 (sQ123 N)) := goodQ123 N
theorem gQ120 (N : Nat) : GoodF Pg 66 (FQ120 (sQ120 N)) := goodQ120 N _ _ (gQ101 N) (gQ123 N)
theorem gQ10 (N : Nat) : GoodF Pg 147 (FQ10 (sQ10 N)) := goodQ10 N
theorem gQ100 (N : Nat) : GoodF Pg 117 (FQ100 (sQ100 N)) := goodQ100 N _ (gQ10 N)
theorem gQ141 (N : Nat) : GoodF Pg 147 (FQ141 (sQ141 N)) := goodQ141 N
theorem gQ37 (N : Nat) : GoodF Pg 99 (FQ37 (sQ37 N)) := goodQ37 N _ (gQ141 N)
theorem gQ64 (N : Nat) : GoodF Pg 67 (FQ64 (sQ64 N)) := goodQ64 N _ _ (gQ100 N) (gQ37 N)
theorem gQ97 (N : Nat) : GoodF Pg 99 (FQ97 (sQ97 N)) := goodQ97 N _ (gQ10 N)
theorem gQ94 (N : Nat) : GoodF Pg 55 (FQ94 (sQ94 N)) := goodQ94 N _ (gQ97 N)
theorem gQ118 (N : Nat) : GoodF Pg 28 (FQ118 (sQ118 N)) := goodQ118 N _ _ _ (gQ120 N) (gQ64 N) (gQ94 N)
theorem gQ91 (N : Nat) : GoodF Pg 101 (FQ91 (sQ91 N)) := goodQ91 N _ (gQ10 N)
theorem gQ67 (N : Nat) : GoodF Pg 57 (FQ67 (sQ67 N)) := goodQ67 N _ _ (gQ91 N) (gQ37 N)
theorem gQ2 (N : Nat) : GoodF Pg 19 (FQ2 (sQ2 N)) := goodQ2 N _ (gQ67 N)
theorem gQ104 (N : Nat) : GoodF Pg 52 (FQ104 (sQ104 N)) := goodQ104 N
theorem gQ57 (N : Nat) : GoodF Pg 52 (FQ57 (sQ57 N)) := goodQ57 N
theorem gQ131 (N : Nat) : GoodF Pg 146 (FQ131 (sQ131 N)) := goodQ131 N _ (gQ10 N)
theorem gQ82 (N : Nat) : GoodF Pg 98 (FQ82 (sQ82 N)) := goodQ82 N _ _ (gQ131 N) (gQ37 N)
theorem gQ27 (N : Nat) : GoodF Pg 54 (FQ27 (sQ27 N)) := goodQ27 N _ (gQ82 N)
theorem gQ132 (N : Nat) : GoodF Pg 143 (FQ132 (sQ132 N)) := goodQ132 N _ (gQ10 N)
theorem gQ99 (N : Nat) : GoodF Pg 144 (FQ99 (sQ99 N)) := goodQ99 N
theorem gQ121 (N : Nat) : GoodF Pg 145 (FQ121 (sQ121 N)) := goodQ121 N _ (gQ10 N)
theorem gQ68 (N : Nat) : GoodF Pg 97 (FQ68 (sQ68 N)) := goodQ68 N _ _ _ _ (gQ132 N) (gQ37 N) (gQ99 N) (gQ121 N)
theorem gQ44 (N : Nat) : GoodF Pg 53 (FQ44 (sQ44 N)) := goodQ44 N _ (gQ68 N)
theorem gQ18 (N : Nat) : GoodF Pg 15 (FQ18 (sQ18 N)) := goodQ18 N _ _ _ _ (gQ104 N) (gQ57 N) (gQ27 N) (gQ44 N)
theorem gQ3 (N : Nat) : GoodF Pg 15 (FQ3 (sQ3 N)) := goodQ3 N _ _ _ (gQ57 N) (gQ27 N) (gQ44 N)
theorem gQ142 (N : Nat) : GoodF Pg 56 (FQ142 (sQ142 N)) := goodQ142 N _ _ _ _ _ (gQ113 N) (gQ118 N) (gQ2 N) (gQ18 N) (gQ3 N)
theorem gQ31 (N : Nat) : GoodF Pg 18 (FQ31 (sQ31 N)) := goodQ31 N _ (gQ142 N)
theorem gQ105 (N : Nat) : GoodF Pg 21 (FQ105 (sQ105 N)) := goodQ105 N _ _ (gQ110 N) (gQ85 N)
theorem gQ96 (N : Nat) : GoodF Pg 99 (FQ96 (sQ96 N)) := goodQ96 N _ (gQ10 N)
theorem gQ83 (N : Nat) : GoodF Pg 55 (FQ83 (sQ83 N)) := goodQ83 N _ (gQ96 N)
theorem gQ20 (N : Nat) : GoodF Pg 17 (FQ20 (sQ20 N)) := goodQ20 N _ (gQ83 N)
theorem gQ75 (N : Nat) : GoodF Pg 57 (FQ75 (sQ75 N)) := goodQ75 N _ _ (gQ91 N) (gQ37 N)
theorem gQ16 (N : Nat) : GoodF Pg 19 (FQ16 (sQ16 N)) := goodQ16 N _ (gQ75 N)
theorem gQ74 (N : Nat) : GoodF Pg 96 (FQ74 (sQ74 N)) := goodQ74 N _ _ (gQ100 N) (gQ37 N)
theorem gQ106 (N : Nat) : GoodF Pg 51 (FQ106 (sQ106 N)) := goodQ106 N _ (gQ74 N)
theorem gQ86 (N : Nat) : GoodF Pg 16 (FQ86 (sQ86 N)) := goodQ86 N _ (gQ106 N)
theorem gQ12 (N : Nat) : GoodF Pg 20 (FQ12 (sQ12 N)) := goodQ12 N _ _ _ (gQ20 N) (gQ3 N) (gQ57 N)
theorem gQ21 (N : Nat) : GoodF Pg 22 (FQ21 (sQ21 N)) := goodQ21 N _ _ _ _ _ _ _ (gQ118 N) (gQ20 N) (gQ3 N) (gQ16 N) (gQ86 N) (gQ2 N) (gQ12 N)
theorem gQ107 (N : Nat) : GoodF Pg 23 (FQ107 (sQ107 N)) := goodQ107 N _ (gQ7 N)
theorem gQ84 (N : Nat) : GoodF Pg 24 (FQ84 (sQ84 N)) := goodQ84 N _ _ (gQ7 N) (gQ29 N)
theorem tQ51 (N : Nat) (x_0 x_1 x_2 x_3 y_0 y_1 y_2 y_3 u_0 u_1 u_2 : Int) (hG : sQ51 N x_0 x_1 x_2 x_3 y_0 y_1 y_2 y_3 u_0 u_1 u_2 (fun b => b) = true) : OkC Pg 4 (shFQ51.args [.int x_0, .int x_1, .int x_2, .int x_3, .int y_0, .int y_1, .int y_2, .int y_3, .int u_0, .int u_1, .int u_2]) [] (.bool true) [] :=
  topQ51 N _ _ _ _ _ _ _ _ _ _ _ (gQ45 N) (gQ41 N) (gQ46 N) (gQ71 N) (gQ47 N) (gQ31 N) (gQ105 N) (gQ77 N) (gQ21 N) (gQ107 N) (gQ84 N) x_0 x_1 x_2 x_3 y_0 y_1 y_2 y_3 u_0 u_1 u_2 hG
end Go.Proofs.YtnfgnjciliapaaaGreatDoor
end
