/-
  The program's functions without a body, and those that look at bits, tied to their meanings.
  Conditions: none.
-/
import Derived.Test.YtnfgnjciliapaaaGreatDoorGs
import Derived.Test.YtnfgnjciliapaaaGreatDoorMachP
import Derived.Test.YtnfgnjciliapaaaGreatDoorL1
import Derived.Test.YtnfgnjciliapaaaGreatDoorGt0
import Derived.Test.YtnfgnjciliapaaaGreatDoorGt1
import Derived.Test.YtnfgnjciliapaaaGreatDoorGt2
import Derived.Test.YtnfgnjciliapaaaGreatDoorGt3
import Derived.Test.YtnfgnjciliapaaaGreatDoorGt4
section
namespace Go.Proofs.YtnfgnjciliapaaaGreatDoor
open Go Go.Mach Go.Proofs
set_option maxRecDepth 20000

theorem gQ121 (N : Nat) : GoodF Pg 95 (FQ121 (sQ121 N)) :=
  good_mono (good_bits_fb (fn := Tryz.f95) (by kernel_rfl) (by kernel_rfl) (by kernel_rfl) (by kernel_rfl) (by kernel_rfl)) fun a k h => by
    unfold spQ121 at h; split at h
    · exact h
    · cases h
theorem gQ96 (N : Nat) : GoodF Pg 95 (FQ96 (sQ96 N)) :=
  good_mono (good_bits (fn := Tryz.f95) (by kernel_rfl) (by kernel_rfl) (by kernel_rfl) (by kernel_rfl) (by kernel_rfl)) fun a k h => by
    unfold spQ96 sQ96 at h; split at h
    · split at h
      · exact h
      · cases h
    · cases h
theorem gQ75 (N : Nat) : GoodF Pg 82 (FQ75 (sQ75 N)) :=
  good_mono (good_frombits (fn := Tryz.f82) (by kernel_rfl) (by kernel_rfl) (by kernel_rfl) (by kernel_rfl) (by kernel_rfl)) fun a k h => by
    unfold spQ75 at h; split at h
    · exact h
    · cases h
theorem gQ150 (N : Nat) : GoodF Pg 124 (FQ150 (sQ150 N)) :=
  good_mono (good_sqrt (fn := Tryz.f124) (by kernel_rfl) (by kernel_rfl) (by kernel_rfl) (by kernel_rfl) (by kernel_rfl) sqrt_nan) fun a k h => by
    unfold spQ150 at h; split at h
    · exact h
    · cases h
theorem gQ59 (N : Nat) : GoodF Pg 183 (FQ59 (sQ59 N)) :=
  good_mono (good_add64 (fn := Tryz.f183) (by kernel_rfl) (by kernel_rfl) (by kernel_rfl) (by kernel_rfl) (by kernel_rfl)) fun a k h => by
    unfold spQ59 at h; split at h
    · exact h
    · cases h
theorem gQ78 (N : Nat) : GoodF Pg 191 (FQ78 (sQ78 N)) :=
  good_mono (good_sub64 (fn := Tryz.f191) (by kernel_rfl) (by kernel_rfl) (by kernel_rfl) (by kernel_rfl) (by kernel_rfl)) fun a k h => by
    unfold spQ78 at h; split at h
    · exact h
    · cases h
theorem xQ115 (N : Nat) (h : GoodF Pg 126 (FQ129 (sQ129 N))) : GoodF Pg 126 (FQ115 (sQ115 N)) := by
  have q : ∀ b, clsF (cn (some b)) = clsF (some b) := by
    intro b; by_cases hb : isNaN b = true <;> simp [cn, clsF, cls, hb]
  refine good_lift1 (spQ115 (sQ115 N)) (fun x => .int .i64 (clsF x)) h rfl (fun a k hk => ?_) (fun b k => ?_) (fun b => by rw [q])
  · unfold spQ115 at hk; split at hk
    · exact ⟨_, rfl, hk⟩
    · cases hk
  · have e : FQ129 (sQ129 N) [.val (.float .f64 b)] [] k = sQ129 N b (fun r0 => k (.int .i64 r0) []) := by kernel_rfl
    rw [e, law_Class, q]; rfl
theorem x_m_Abs (N : Nat) (h : GoodF Pg 47 (FQ144 (sQ144 N))) : GoodF Pg 47 (F_m_Abs (s_m_Abs N)) := by
  have q : ∀ b, absF (cn (some b)) = absF (some b) := by
    intro b
    by_cases hb : isNaN b = true
    · have hb' := (isNaN_iff b).1 hb
      have : isNaN (b % 9223372036854775808) = true := (isNaN_iff _).2 (by omega)
      simp [cn, absF, canon, hb, this]
    · simp [cn, hb]
  refine good_lift1 (sp_m_Abs (s_m_Abs N)) (fun x => .flt (absF x)) h rfl (fun a k hk => ?_) (fun b k => ?_) (fun b => by rw [q])
  · unfold sp_m_Abs at hk; split at hk
    · exact ⟨_, rfl, hk⟩
    · cases hk
  · have e : FQ144 (sQ144 N) [.val (.float .f64 b)] [] k = sQ144 N b (fun r0 => k (.flt r0) []) := by kernel_rfl
    rw [e, law_Abs, q]

end Go.Proofs.YtnfgnjciliapaaaGreatDoor
end
section
namespace Go.Proofs.YtnfgnjciliapaaaGreatDoor
open Go Go.Mach Go.Proofs
set_option linter.unusedVariables false

theorem g_an_of (N : Nat) : GoodF Pg 155 (F_an_of (s_an_of N)) := good_an_of N
theorem gQ122 (N : Nat) : GoodF Pg 190 (FQ122 (sQ122 N)) := goodQ122 N
theorem gQ74 (N : Nat) : GoodF Pg 209 (FQ74 (sQ74 N)) := goodQ74 N
theorem gQ73 (N : Nat) : GoodF Pg 201 (FQ73 (sQ73 N)) := goodQ73 N _ _ (gQ122 N) (gQ74 N)
theorem gQ61 (N : Nat) : GoodF Pg 179 (FQ61 (sQ61 N)) := goodQ61 N
theorem gQ138 (N : Nat) : GoodF Pg 202 (FQ138 (sQ138 N)) := goodQ138 N _ _ (gQ74 N) (gQ61 N)
theorem gQ64 (N : Nat) : GoodF Pg 189 (FQ64 (sQ64 N)) := goodQ64 N _ _ (gQ73 N) (gQ138 N)
theorem gQ24 (N : Nat) : GoodF Pg 176 (FQ24 (sQ24 N)) := goodQ24 N _ _ _ (gQ64 N) (gQ122 N) (gQ61 N)
theorem gQ23 (N : Nat) : GoodF Pg 154 (FQ23 (sQ23 N)) := goodQ23 N _ (gQ24 N)
theorem gQ129 (N : Nat) : GoodF Pg 126 (FQ129 (sQ129 N)) := goodQ129 N _ _ _ (gQ121 N) (g_an_of N) (gQ23 N)
theorem gQ144 (N : Nat) : GoodF Pg 47 (FQ144 (sQ144 N)) := goodQ144 N _ _ (gQ121 N) (gQ75 N)
theorem gQ41 (N : Nat) : GoodF Pg 48 (FQ41 (sQ41 N)) := goodQ41 N
theorem gQ10 (N : Nat) : GoodF Pg 42 (FQ10 (sQ10 N)) := goodQ10 N _ (gQ41 N)
theorem gQ52 (N : Nat) : GoodF Pg 43 (FQ52 (sQ52 N)) := goodQ52 N
theorem g_m_Abs (N : Nat) : GoodF Pg 47 (F_m_Abs (s_m_Abs N)) := x_m_Abs N (gQ144 N)
theorem gQ101 (N : Nat) : GoodF Pg 110 (FQ101 (sQ101 N)) := goodQ101 N _ (g_m_Abs N)
theorem gQ106 (N : Nat) : GoodF Pg 111 (FQ106 (sQ106 N)) := goodQ106 N
theorem gQ57 (N : Nat) : GoodF Pg 112 (FQ57 (sQ57 N)) := goodQ57 N _ (g_m_Abs N)
theorem gQ140 (N : Nat) : GoodF Pg 123 (FQ140 (sQ140 N)) := goodQ140 N _ _ _ _ _ (gQ101 N) (gQ106 N) (gQ57 N) (gQ96 N) (gQ75 N)
theorem gQ134 (N : Nat) : GoodF Pg 75 (FQ134 (sQ134 N)) := goodQ134 N _ (gQ140 N)
theorem gQ82 (N : Nat) : GoodF Pg 113 (FQ82 (sQ82 N)) := goodQ82 N _ _ (gQ96 N) (gQ75 N)
theorem g_m_Inf (N : Nat) : GoodF Pg 114 (F_m_Inf (s_m_Inf N)) := good_m_Inf N _ (gQ75 N)
theorem gQ133 (N : Nat) : GoodF Pg 64 (FQ133 (sQ133 N)) := goodQ133 N _ _ _ _ _ _ _ (gQ101 N) (gQ106 N) (gQ57 N) (gQ96 N) (gQ82 N) (g_m_Inf N) (gQ75 N)
theorem gQ102 (N : Nat) : GoodF Pg 26 (FQ102 (sQ102 N)) := goodQ102 N _ (gQ133 N)
theorem gQ143 (N : Nat) : GoodF Pg 76 (FQ143 (sQ143 N)) := goodQ143 N _ (gQ150 N)
theorem gQ117 (N : Nat) : GoodF Pg 77 (FQ117 (sQ117 N)) := goodQ117 N
theorem gQ114 (N : Nat) : GoodF Pg 35 (FQ114 (sQ114 N)) := goodQ114 N _ _ _ _ _ _ _ (gQ10 N) (gQ52 N) (g_m_Abs N) (gQ134 N) (gQ102 N) (gQ143 N) (gQ117 N)
theorem gQ107 (N : Nat) : GoodF Pg 49 (FQ107 (sQ107 N)) := goodQ107 N
theorem gQ126 (N : Nat) : GoodF Pg 50 (FQ126 (sQ126 N)) := goodQ126 N _ (gQ41 N)
theorem gQ81 (N : Nat) : GoodF Pg 13 (FQ81 (sQ81 N)) := goodQ81 N _ _ _ _ (gQ10 N) (gQ41 N) (gQ107 N) (gQ126 N)
theorem gQ91 (N : Nat) : GoodF Pg 42 (FQ91 (sQ91 N)) := goodQ91 N _ (gQ41 N)
theorem gQ131 (N : Nat) : GoodF Pg 83 (FQ131 (sQ131 N)) := goodQ131 N
theorem gQ118 (N : Nat) : GoodF Pg 72 (FQ118 (sQ118 N)) := goodQ118 N _ (gQ10 N)
theorem gQ130 (N : Nat) : GoodF Pg 40 (FQ130 (sQ130 N)) := goodQ130 N _ _ _ (gQ91 N) (gQ131 N) (gQ118 N)
theorem gQ115 (N : Nat) : GoodF Pg 126 (FQ115 (sQ115 N)) := xQ115 N (gQ129 N)
theorem gQ85 (N : Nat) : GoodF Pg 84 (FQ85 (sQ85 N)) := goodQ85 N _ (gQ115 N)
theorem gQ6 (N : Nat) : GoodF Pg 180 (FQ6 (sQ6 N)) := goodQ6 N
theorem gQ58 (N : Nat) : GoodF Pg 157 (FQ58 (sQ58 N)) := goodQ58 N _ _ _ _ (gQ24 N) (gQ23 N) (gQ61 N) (gQ6 N)
theorem gQ127 (N : Nat) : GoodF Pg 129 (FQ127 (sQ127 N)) := goodQ127 N _ _ _ (gQ96 N) (g_an_of N) (gQ58 N)
theorem gQ1 (N : Nat) : GoodF Pg 167 (FQ1 (sQ1 N)) := goodQ1 N
theorem gQ104 (N : Nat) : GoodF Pg 158 (FQ104 (sQ104 N)) := goodQ104 N _ (gQ1 N)
theorem gQ0 (N : Nat) : GoodF Pg 139 (FQ0 (sQ0 N)) := goodQ0 N
theorem gQ45 (N : Nat) : GoodF Pg 130 (FQ45 (sQ45 N)) := goodQ45 N _ _ (gQ104 N) (gQ0 N)
theorem gQ63 (N : Nat) : GoodF Pg 140 (FQ63 (sQ63 N)) := goodQ63 N
theorem gQ27 (N : Nat) : GoodF Pg 139 (FQ27 (sQ27 N)) := goodQ27 N
theorem gQ20 (N : Nat) : GoodF Pg 91 (FQ20 (sQ20 N)) := goodQ20 N _ _ (gQ63 N) (gQ27 N)
theorem gQ120 (N : Nat) : GoodF Pg 86 (FQ120 (sQ120 N)) := goodQ120 N _ _ _ (gQ127 N) (gQ45 N) (gQ20 N)
theorem gQ86 (N : Nat) : GoodF Pg 192 (FQ86 (sQ86 N)) := goodQ86 N
theorem gQ83 (N : Nat) : GoodF Pg 181 (FQ83 (sQ83 N)) := goodQ83 N _ _ (gQ86 N) (gQ59 N)
theorem gQ110 (N : Nat) : GoodF Pg 159 (FQ110 (sQ110 N)) := goodQ110 N _ _ (gQ83 N) (gQ1 N)
theorem gQ47 (N : Nat) : GoodF Pg 131 (FQ47 (sQ47 N)) := goodQ47 N _ _ (gQ110 N) (gQ0 N)
theorem gQ12 (N : Nat) : GoodF Pg 87 (FQ12 (sQ12 N)) := goodQ12 N _ (gQ47 N)
theorem gQ67 (N : Nat) : GoodF Pg 94 (FQ67 (sQ67 N)) := goodQ67 N
theorem gQ4 (N : Nat) : GoodF Pg 94 (FQ4 (sQ4 N)) := goodQ4 N
theorem gQ84 (N : Nat) : GoodF Pg 169 (FQ84 (sQ84 N)) := goodQ84 N _ (gQ1 N)
theorem gQ56 (N : Nat) : GoodF Pg 141 (FQ56 (sQ56 N)) := goodQ56 N _ _ (gQ84 N) (gQ0 N)
theorem gQ28 (N : Nat) : GoodF Pg 128 (FQ28 (sQ28 N)) := goodQ28 N _ (gQ56 N)
theorem gQ13 (N : Nat) : GoodF Pg 170 (FQ13 (sQ13 N)) := goodQ13 N
theorem gQ119 (N : Nat) : GoodF Pg 166 (FQ119 (sQ119 N)) := goodQ119 N _ _ _ (gQ13 N) (gQ59 N) (gQ1 N)
theorem gQ92 (N : Nat) : GoodF Pg 177 (FQ92 (sQ92 N)) := goodQ92 N
theorem gQ123 (N : Nat) : GoodF Pg 178 (FQ123 (sQ123 N)) := goodQ123 N _ _ _ (gQ13 N) (gQ78 N) (gQ1 N)
theorem gQ54 (N : Nat) : GoodF Pg 156 (FQ54 (sQ54 N)) := goodQ54 N _ _ _ _ (gQ119 N) (gQ0 N) (gQ92 N) (gQ123 N)
theorem gQ22 (N : Nat) : GoodF Pg 127 (FQ22 (sQ22 N)) := goodQ22 N _ (gQ54 N)
theorem gQ14 (N : Nat) : GoodF Pg 85 (FQ14 (sQ14 N)) := goodQ14 N _ _ _ _ (gQ67 N) (gQ4 N) (gQ28 N) (gQ22 N)
theorem gQ5 (N : Nat) : GoodF Pg 85 (FQ5 (sQ5 N)) := goodQ5 N _ _ _ (gQ4 N) (gQ28 N) (gQ22 N)
theorem gQ29 (N : Nat) : GoodF Pg 160 (FQ29 (sQ29 N)) := goodQ29 N _ _ (gQ63 N) (gQ0 N)
theorem gQ48 (N : Nat) : GoodF Pg 161 (FQ48 (sQ48 N)) := goodQ48 N _ (gQ13 N)
theorem gQ7 (N : Nat) : GoodF Pg 162 (FQ7 (sQ7 N)) := goodQ7 N _ (gQ6 N)
theorem gQ108 (N : Nat) : GoodF Pg 165 (FQ108 (sQ108 N)) := goodQ108 N _ _ (gQ13 N) (gQ1 N)
theorem gQ11 (N : Nat) : GoodF Pg 136 (FQ11 (sQ11 N)) := goodQ11 N _ _ _ (gQ108 N) (gQ119 N) (gQ27 N)
theorem gQ15 (N : Nat) : GoodF Pg 132 (FQ15 (sQ15 N)) := goodQ15 N _ _ _ _ _ (gQ29 N) (gQ4 N) (gQ48 N) (gQ7 N) (gQ11 N)
theorem gQ77 (N : Nat) : GoodF Pg 182 (FQ77 (sQ77 N)) := goodQ77 N
theorem gQ109 (N : Nat) : GoodF Pg 163 (FQ109 (sQ109 N)) := goodQ109 N _ (gQ77 N)
theorem gQ31 (N : Nat) : GoodF Pg 133 (FQ31 (sQ31 N)) := goodQ31 N _ (gQ109 N)
theorem gQ51 (N : Nat) : GoodF Pg 164 (FQ51 (sQ51 N)) := goodQ51 N _ _ (gQ104 N) (gQ0 N)
theorem gQ53 (N : Nat) : GoodF Pg 134 (FQ53 (sQ53 N)) := goodQ53 N _ (gQ51 N)
theorem gQ30 (N : Nat) : GoodF Pg 135 (FQ30 (sQ30 N)) := goodQ30 N _ _ (gQ63 N) (gQ0 N)
theorem gQ35 (N : Nat) : GoodF Pg 139 (FQ35 (sQ35 N)) := goodQ35 N
theorem gQ18 (N : Nat) : GoodF Pg 137 (FQ18 (sQ18 N)) := goodQ18 N _ _ (gQ1 N) (gQ35 N)
theorem gQ139 (N : Nat) : GoodF Pg 168 (FQ139 (sQ139 N)) := goodQ139 N _ (gQ13 N)
theorem gQ32 (N : Nat) : GoodF Pg 138 (FQ32 (sQ32 N)) := goodQ32 N _ (gQ139 N)
theorem gQ8 (N : Nat) : GoodF Pg 88 (FQ8 (sQ8 N)) := goodQ8 N _ _ _ _ _ _ _ _ (gQ15 N) (gQ4 N) (gQ31 N) (gQ53 N) (gQ30 N) (gQ18 N) (gQ32 N) (gQ11 N)
theorem gQ69 (N : Nat) : GoodF Pg 44 (FQ69 (sQ69 N)) := goodQ69 N _ _ _ _ _ _ (gQ85 N) (gQ120 N) (gQ12 N) (gQ14 N) (gQ5 N) (gQ8 N)
theorem gQ103 (N : Nat) : GoodF Pg 92 (FQ103 (sQ103 N)) := goodQ103 N
theorem gQ37 (N : Nat) : GoodF Pg 141 (FQ37 (sQ37 N)) := goodQ37 N _ _ (gQ84 N) (gQ0 N)
theorem gQ36 (N : Nat) : GoodF Pg 139 (FQ36 (sQ36 N)) := goodQ36 N
theorem gQ25 (N : Nat) : GoodF Pg 142 (FQ25 (sQ25 N)) := goodQ25 N _ _ _ (gQ13 N) (gQ1 N) (gQ36 N)
theorem gQ38 (N : Nat) : GoodF Pg 141 (FQ38 (sQ38 N)) := goodQ38 N _ _ (gQ84 N) (gQ27 N)
theorem gQ88 (N : Nat) : GoodF Pg 93 (FQ88 (sQ88 N)) := goodQ88 N _ _ _ _ _ (gQ37 N) (gQ53 N) (gQ25 N) (gQ38 N) (gQ20 N)
theorem gQ34 (N : Nat) : GoodF Pg 91 (FQ34 (sQ34 N)) := goodQ34 N _ _ (gQ63 N) (gQ0 N)
theorem gQ60 (N : Nat) : GoodF Pg 90 (FQ60 (sQ60 N)) := goodQ60 N _ _ (gQ34 N) (gQ5 N)
theorem gQ97 (N : Nat) : GoodF Pg 89 (FQ97 (sQ97 N)) := goodQ97 N _ _ _ _ (gQ103 N) (gQ88 N) (gQ60 N) (gQ8 N)
theorem gQ70 (N : Nat) : GoodF Pg 45 (FQ70 (sQ70 N)) := goodQ70 N _ (gQ97 N)
theorem gQ33 (N : Nat) : GoodF Pg 46 (FQ33 (sQ33 N)) := goodQ33 N _ _ _ _ _ (gQ103 N) (gQ88 N) (gQ34 N) (gQ5 N) (gQ4 N)
theorem gQ72 (N : Nat) : GoodF Pg 11 (FQ72 (sQ72 N)) := goodQ72 N _ _ _ _ _ (gQ10 N) (gQ52 N) (gQ69 N) (gQ70 N) (gQ33 N)
theorem gQ68 (N : Nat) : GoodF Pg 41 (FQ68 (sQ68 N)) := goodQ68 N
theorem gQ42 (N : Nat) : GoodF Pg 8 (FQ42 (sQ42 N)) := goodQ42 N _ _ _ _ _ (gQ114 N) (gQ81 N) (gQ130 N) (gQ72 N) (gQ68 N)
theorem gQ50 (N : Nat) : GoodF Pg 39 (FQ50 (sQ50 N)) := goodQ50 N _ (gQ75 N)
theorem gQ40 (N : Nat) : GoodF Pg 9 (FQ40 (sQ40 N)) := goodQ40 N _ (gQ50 N)
theorem gQ43 (N : Nat) : GoodF Pg 10 (FQ43 (sQ43 N)) := goodQ43 N _ (gQ50 N)
theorem gQ46 (N : Nat) : GoodF Pg 12 (FQ46 (sQ46 N)) := goodQ46 N _ _ (g_m_Abs N) (gQ102 N)
theorem gQ9 (N : Nat) : GoodF Pg 147 (FQ9 (sQ9 N)) := goodQ9 N
theorem gQ94 (N : Nat) : GoodF Pg 117 (FQ94 (sQ94 N)) := goodQ94 N _ (gQ9 N)
theorem gQ136 (N : Nat) : GoodF Pg 147 (FQ136 (sQ136 N)) := goodQ136 N
theorem gQ44 (N : Nat) : GoodF Pg 99 (FQ44 (sQ44 N)) := goodQ44 N _ (gQ136 N)
theorem gQ71 (N : Nat) : GoodF Pg 96 (FQ71 (sQ71 N)) := goodQ71 N _ _ (gQ94 N) (gQ44 N)
theorem gQ76 (N : Nat) : GoodF Pg 51 (FQ76 (sQ76 N)) := goodQ76 N _ (gQ71 N)
theorem gQ100 (N : Nat) : GoodF Pg 14 (FQ100 (sQ100 N)) := goodQ100 N _ (gQ76 N)
theorem gQ99 (N : Nat) : GoodF Pg 16 (FQ99 (sQ99 N)) := goodQ99 N _ (gQ76 N)
theorem gQ89 (N : Nat) : GoodF Pg 99 (FQ89 (sQ89 N)) := goodQ89 N _ (gQ9 N)
theorem gQ80 (N : Nat) : GoodF Pg 55 (FQ80 (sQ80 N)) := goodQ80 N _ (gQ89 N)
theorem gQ21 (N : Nat) : GoodF Pg 17 (FQ21 (sQ21 N)) := goodQ21 N _ (gQ80 N)
theorem gQ55 (N : Nat) : GoodF Pg 52 (FQ55 (sQ55 N)) := goodQ55 N
theorem gQ124 (N : Nat) : GoodF Pg 146 (FQ124 (sQ124 N)) := goodQ124 N _ (gQ9 N)
theorem gQ79 (N : Nat) : GoodF Pg 98 (FQ79 (sQ79 N)) := goodQ79 N _ _ (gQ124 N) (gQ44 N)
theorem gQ26 (N : Nat) : GoodF Pg 54 (FQ26 (sQ26 N)) := goodQ26 N _ (gQ79 N)
theorem gQ125 (N : Nat) : GoodF Pg 143 (FQ125 (sQ125 N)) := goodQ125 N _ (gQ9 N)
theorem gQ93 (N : Nat) : GoodF Pg 144 (FQ93 (sQ93 N)) := goodQ93 N
theorem gQ113 (N : Nat) : GoodF Pg 145 (FQ113 (sQ113 N)) := goodQ113 N _ (gQ9 N)
theorem gQ66 (N : Nat) : GoodF Pg 97 (FQ66 (sQ66 N)) := goodQ66 N _ _ _ _ (gQ125 N) (gQ44 N) (gQ93 N) (gQ113 N)
theorem gQ39 (N : Nat) : GoodF Pg 53 (FQ39 (sQ39 N)) := goodQ39 N _ (gQ66 N)
theorem gQ3 (N : Nat) : GoodF Pg 15 (FQ3 (sQ3 N)) := goodQ3 N _ _ _ (gQ55 N) (gQ26 N) (gQ39 N)
theorem gQ105 (N : Nat) : GoodF Pg 100 (FQ105 (sQ105 N)) := goodQ105 N
theorem gQ128 (N : Nat) : GoodF Pg 151 (FQ128 (sQ128 N)) := goodQ128 N _ (gQ96 N)
theorem gQ95 (N : Nat) : GoodF Pg 115 (FQ95 (sQ95 N)) := goodQ95 N _ (gQ128 N)
theorem gQ116 (N : Nat) : GoodF Pg 116 (FQ116 (sQ116 N)) := goodQ116 N
theorem gQ112 (N : Nat) : GoodF Pg 66 (FQ112 (sQ112 N)) := goodQ112 N _ _ (gQ95 N) (gQ116 N)
theorem gQ62 (N : Nat) : GoodF Pg 67 (FQ62 (sQ62 N)) := goodQ62 N _ _ (gQ94 N) (gQ44 N)
theorem gQ90 (N : Nat) : GoodF Pg 99 (FQ90 (sQ90 N)) := goodQ90 N _ (gQ9 N)
theorem gQ87 (N : Nat) : GoodF Pg 55 (FQ87 (sQ87 N)) := goodQ87 N _ (gQ90 N)
theorem gQ135 (N : Nat) : GoodF Pg 28 (FQ135 (sQ135 N)) := goodQ135 N _ _ _ (gQ112 N) (gQ62 N) (gQ87 N)
theorem gQ111 (N : Nat) : GoodF Pg 101 (FQ111 (sQ111 N)) := goodQ111 N _ (gQ9 N)
theorem gQ65 (N : Nat) : GoodF Pg 57 (FQ65 (sQ65 N)) := goodQ65 N _ _ (gQ111 N) (gQ44 N)
theorem gQ2 (N : Nat) : GoodF Pg 19 (FQ2 (sQ2 N)) := goodQ2 N _ (gQ65 N)
theorem gQ98 (N : Nat) : GoodF Pg 52 (FQ98 (sQ98 N)) := goodQ98 N
theorem gQ17 (N : Nat) : GoodF Pg 15 (FQ17 (sQ17 N)) := goodQ17 N _ _ _ _ (gQ98 N) (gQ55 N) (gQ26 N) (gQ39 N)
theorem gQ137 (N : Nat) : GoodF Pg 56 (FQ137 (sQ137 N)) := goodQ137 N _ _ _ _ _ (gQ105 N) (gQ135 N) (gQ2 N) (gQ17 N) (gQ3 N)
theorem gQ19 (N : Nat) : GoodF Pg 18 (FQ19 (sQ19 N)) := goodQ19 N _ (gQ137 N)
theorem gQ16 (N : Nat) : GoodF Pg 20 (FQ16 (sQ16 N)) := goodQ16 N _ _ _ (gQ21 N) (gQ3 N) (gQ55 N)
theorem tQ49 (N : Nat) (x_0 x_1 x_2 x_3 u_0 u_1 u_2 : Int) (hG : sQ49 N x_0 x_1 x_2 x_3 u_0 u_1 u_2 (fun b => b) = true) : OkC Pg 3 (shFQ49.args [.int x_0, .int x_1, .int x_2, .int x_3, .int u_0, .int u_1, .int u_2]) [] (.bool true) [] :=
  topQ49 N _ _ _ _ _ _ _ _ _ _ _ _ _ (gQ42 N) (gQ40 N) (gQ43 N) (gQ72 N) (gQ46 N) (gQ81 N) (gQ100 N) (gQ99 N) (gQ21 N) (gQ3 N) (gQ19 N) (gQ2 N) (gQ16 N) x_0 x_1 x_2 x_3 u_0 u_1 u_2 hG
end Go.Proofs.YtnfgnjciliapaaaGreatDoor
end
