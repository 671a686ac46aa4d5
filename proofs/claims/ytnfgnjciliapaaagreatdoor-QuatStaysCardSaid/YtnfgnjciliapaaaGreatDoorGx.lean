/-
  The program's functions without a body, and those that look at bits, tied to their meanings.
  Conditions: none.
-/
import Derived.Test.YtnfgnjciliapaaaGreatDoorGs
import Derived.Test.YtnfgnjciliapaaaGreatDoorMachP
import Derived.Test.YtnfgnjciliapaaaGreatDoorL1
import Derived.Test.YtnfgnjciliapaaaGreatDoorGt0
import Derived.Test.YtnfgnjciliapaaaGreatDoorGt1
import Derived.Test.YtnfgnjciliapaaaGreatDoorGt2
import Derived.Test.YtnfgnjciliapaaaGreatDoorGt3
import Derived.Test.YtnfgnjciliapaaaGreatDoorGt4
import Derived.Test.YtnfgnjciliapaaaGreatDoorGt5
import Derived.Test.YtnfgnjciliapaaaGreatDoorGt6
section
namespace Go.Proofs.YtnfgnjciliapaaaGreatDoor
open Go Go.Mach Go.Proofs
set_option maxRecDepth 20000

theorem gQ147 (N : Nat) : GoodF Pg 95 (FQ147 (sQ147 N)) :=
  good_mono (good_bits_fb (fn := Tryz.f95) (by kernel_rfl) (by kernel_rfl) (by kernel_rfl) (by kernel_rfl) (by kernel_rfl)) fun a k h => by
    unfold spQ147 at h; split at h
    · exact h
    · cases h
theorem gQ114 (N : Nat) : GoodF Pg 95 (FQ114 (sQ114 N)) :=
  good_mono (good_bits (fn := Tryz.f95) (by kernel_rfl) (by kernel_rfl) (by kernel_rfl) (by kernel_rfl) (by kernel_rfl)) fun a k h => by
    unfold spQ114 sQ114 at h; split at h
    · split at h
      · exact h
      · cases h
    · cases h
theorem gQ82 (N : Nat) : GoodF Pg 82 (FQ82 (sQ82 N)) :=
  good_mono (good_frombits (fn := Tryz.f82) (by kernel_rfl) (by kernel_rfl) (by kernel_rfl) (by kernel_rfl) (by kernel_rfl)) fun a k h => by
    unfold spQ82 at h; split at h
    · exact h
    · cases h
theorem gQ184 (N : Nat) : GoodF Pg 124 (FQ184 (sQ184 N)) :=
  good_mono (good_sqrt (fn := Tryz.f124) (by kernel_rfl) (by kernel_rfl) (by kernel_rfl) (by kernel_rfl) (by kernel_rfl) sqrt_nan) fun a k h => by
    unfold spQ184 at h; split at h
    · exact h
    · cases h
theorem gQ68 (N : Nat) : GoodF Pg 183 (FQ68 (sQ68 N)) :=
  good_mono (good_add64 (fn := Tryz.f183) (by kernel_rfl) (by kernel_rfl) (by kernel_rfl) (by kernel_rfl) (by kernel_rfl)) fun a k h => by
    unfold spQ68 at h; split at h
    · exact h
    · cases h
theorem gQ95 (N : Nat) : GoodF Pg 191 (FQ95 (sQ95 N)) :=
  good_mono (good_sub64 (fn := Tryz.f191) (by kernel_rfl) (by kernel_rfl) (by kernel_rfl) (by kernel_rfl) (by kernel_rfl)) fun a k h => by
    unfold spQ95 at h; split at h
    · exact h
    · cases h
theorem xQ138 (N : Nat) (h : GoodF Pg 126 (FQ163 (sQ163 N))) : GoodF Pg 126 (FQ138 (sQ138 N)) := by
  have q : ∀ b, clsF (cn (some b)) = clsF (some b) := by
    intro b; by_cases hb : isNaN b = true <;> simp [cn, clsF, cls, hb]
  refine good_lift1 (spQ138 (sQ138 N)) (fun x => .int .i64 (clsF x)) h rfl (fun a k hk => ?_) (fun b k => ?_) (fun b => by rw [q])
  · unfold spQ138 at hk; split at hk
    · exact ⟨_, rfl, hk⟩
    · cases hk
  · have e : FQ163 (sQ163 N) [.val (.float .f64 b)] [] k = sQ163 N b (fun r0 => k (.int .i64 r0) []) := by kernel_rfl
    rw [e, law_Class, q]; rfl
theorem x_m_Abs (N : Nat) (h : GoodF Pg 47 (FQ177 (sQ177 N))) : GoodF Pg 47 (F_m_Abs (s_m_Abs N)) := by
  have q : ∀ b, absF (cn (some b)) = absF (some b) := by
    intro b
    by_cases hb : isNaN b = true
    · have hb' := (isNaN_iff b).1 hb
      have : isNaN (b % 9223372036854775808) = true := (isNaN_iff _).2 (by omega)
      simp [cn, absF, canon, hb, this]
    · simp [cn, hb]
  refine good_lift1 (sp_m_Abs (s_m_Abs N)) (fun x => .flt (absF x)) h rfl (fun a k hk => ?_) (fun b k => ?_) (fun b => by rw [q])
  · unfold sp_m_Abs at hk; split at hk
    · exact ⟨_, rfl, hk⟩
    · cases hk
  · have e : FQ177 (sQ177 N) [.val (.float .f64 b)] [] k = sQ177 N b (fun r0 => k (.flt r0) []) := by kernel_rfl
    rw [e, law_Abs, q]

end Go.Proofs.YtnfgnjciliapaaaGreatDoor
end
section
namespace Go.Proofs.YtnfgnjciliapaaaGreatDoor
open Go Go.Mach Go.Proofs
set_option linter.unusedVariables false

theorem g_an_of (N : Nat) : GoodF Pg 155 (F_an_of (s_an_of N)) := good_an_of N
theorem gQ150 (N : Nat) : GoodF Pg 190 (FQ150 (sQ150 N)) := goodQ150 N
theorem gQ89 (N : Nat) : GoodF Pg 209 (FQ89 (sQ89 N)) := goodQ89 N
theorem gQ88 (N : Nat) : GoodF Pg 201 (FQ88 (sQ88 N)) := goodQ88 N _ _ (gQ150 N) (gQ89 N)
theorem gQ74 (N : Nat) : GoodF Pg 179 (FQ74 (sQ74 N)) := goodQ74 N
theorem gQ171 (N : Nat) : GoodF Pg 202 (FQ171 (sQ171 N)) := goodQ171 N _ _ (gQ89 N) (gQ74 N)
theorem gQ78 (N : Nat) : GoodF Pg 189 (FQ78 (sQ78 N)) := goodQ78 N _ _ (gQ88 N) (gQ171 N)
theorem gQ32 (N : Nat) : GoodF Pg 176 (FQ32 (sQ32 N)) := goodQ32 N _ _ _ (gQ78 N) (gQ150 N) (gQ74 N)
theorem gQ31 (N : Nat) : GoodF Pg 154 (FQ31 (sQ31 N)) := goodQ31 N _ (gQ32 N)
theorem gQ163 (N : Nat) : GoodF Pg 126 (FQ163 (sQ163 N)) := goodQ163 N _ _ _ (gQ147 N) (g_an_of N) (gQ31 N)
theorem gQ177 (N : Nat) : GoodF Pg 47 (FQ177 (sQ177 N)) := goodQ177 N _ _ (gQ147 N) (gQ82 N)
theorem gQ12 (N : Nat) : GoodF Pg 48 (FQ12 (sQ12 N)) := goodQ12 N
theorem gQ17 (N : Nat) : GoodF Pg 42 (FQ17 (sQ17 N)) := goodQ17 N _ (gQ12 N)
theorem gQ26 (N : Nat) : GoodF Pg 43 (FQ26 (sQ26 N)) := goodQ26 N
theorem g_m_Abs (N : Nat) : GoodF Pg 47 (F_m_Abs (s_m_Abs N)) := x_m_Abs N (gQ177 N)
theorem gQ121 (N : Nat) : GoodF Pg 110 (FQ121 (sQ121 N)) := goodQ121 N _ (g_m_Abs N)
theorem gQ126 (N : Nat) : GoodF Pg 111 (FQ126 (sQ126 N)) := goodQ126 N
theorem gQ66 (N : Nat) : GoodF Pg 112 (FQ66 (sQ66 N)) := goodQ66 N _ (g_m_Abs N)
theorem gQ174 (N : Nat) : GoodF Pg 123 (FQ174 (sQ174 N)) := goodQ174 N _ _ _ _ _ (gQ121 N) (gQ126 N) (gQ66 N) (gQ114 N) (gQ82 N)
theorem gQ120 (N : Nat) : GoodF Pg 75 (FQ120 (sQ120 N)) := goodQ120 N _ (gQ174 N)
theorem gQ100 (N : Nat) : GoodF Pg 113 (FQ100 (sQ100 N)) := goodQ100 N _ _ (gQ114 N) (gQ82 N)
theorem g_m_Inf (N : Nat) : GoodF Pg 114 (F_m_Inf (s_m_Inf N)) := good_m_Inf N _ (gQ82 N)
theorem gQ165 (N : Nat) : GoodF Pg 64 (FQ165 (sQ165 N)) := goodQ165 N _ _ _ _ _ _ _ (gQ121 N) (gQ126 N) (gQ66 N) (gQ114 N) (gQ100 N) (g_m_Inf N) (gQ82 N)
theorem gQ101 (N : Nat) : GoodF Pg 26 (FQ101 (sQ101 N)) := goodQ101 N _ (gQ165 N)
theorem gQ149 (N : Nat) : GoodF Pg 76 (FQ149 (sQ149 N)) := goodQ149 N _ (gQ184 N)
theorem gQ108 (N : Nat) : GoodF Pg 77 (FQ108 (sQ108 N)) := goodQ108 N
theorem gQ13 (N : Nat) : GoodF Pg 35 (FQ13 (sQ13 N)) := goodQ13 N _ _ _ _ _ _ _ (gQ17 N) (gQ26 N) (g_m_Abs N) (gQ120 N) (gQ101 N) (gQ149 N) (gQ108 N)
theorem gQ60 (N : Nat) : GoodF Pg 49 (FQ60 (sQ60 N)) := goodQ60 N
theorem gQ155 (N : Nat) : GoodF Pg 50 (FQ155 (sQ155 N)) := goodQ155 N _ (gQ12 N)
theorem gQ142 (N : Nat) : GoodF Pg 13 (FQ142 (sQ142 N)) := goodQ142 N _ _ _ _ (gQ17 N) (gQ12 N) (gQ60 N) (gQ155 N)
theorem gQ59 (N : Nat) : GoodF Pg 42 (FQ59 (sQ59 N)) := goodQ59 N _ (gQ12 N)
theorem gQ164 (N : Nat) : GoodF Pg 83 (FQ164 (sQ164 N)) := goodQ164 N
theorem gQ72 (N : Nat) : GoodF Pg 72 (FQ72 (sQ72 N)) := goodQ72 N _ (gQ17 N)
theorem gQ123 (N : Nat) : GoodF Pg 40 (FQ123 (sQ123 N)) := goodQ123 N _ _ _ (gQ59 N) (gQ164 N) (gQ72 N)
theorem gQ138 (N : Nat) : GoodF Pg 126 (FQ138 (sQ138 N)) := xQ138 N (gQ163 N)
theorem gQ69 (N : Nat) : GoodF Pg 84 (FQ69 (sQ69 N)) := goodQ69 N _ (gQ138 N)
theorem gQ6 (N : Nat) : GoodF Pg 180 (FQ6 (sQ6 N)) := goodQ6 N
theorem gQ67 (N : Nat) : GoodF Pg 157 (FQ67 (sQ67 N)) := goodQ67 N _ _ _ _ (gQ32 N) (gQ31 N) (gQ74 N) (gQ6 N)
theorem gQ156 (N : Nat) : GoodF Pg 129 (FQ156 (sQ156 N)) := goodQ156 N _ _ _ (gQ114 N) (g_an_of N) (gQ67 N)
theorem gQ1 (N : Nat) : GoodF Pg 167 (FQ1 (sQ1 N)) := goodQ1 N
theorem gQ124 (N : Nat) : GoodF Pg 158 (FQ124 (sQ124 N)) := goodQ124 N _ (gQ1 N)
theorem gQ0 (N : Nat) : GoodF Pg 139 (FQ0 (sQ0 N)) := goodQ0 N
theorem gQ52 (N : Nat) : GoodF Pg 130 (FQ52 (sQ52 N)) := goodQ52 N _ _ (gQ124 N) (gQ0 N)
theorem gQ77 (N : Nat) : GoodF Pg 140 (FQ77 (sQ77 N)) := goodQ77 N
theorem gQ35 (N : Nat) : GoodF Pg 139 (FQ35 (sQ35 N)) := goodQ35 N
theorem gQ27 (N : Nat) : GoodF Pg 91 (FQ27 (sQ27 N)) := goodQ27 N _ _ (gQ77 N) (gQ35 N)
theorem gQ146 (N : Nat) : GoodF Pg 86 (FQ146 (sQ146 N)) := goodQ146 N _ _ _ (gQ156 N) (gQ52 N) (gQ27 N)
theorem gQ105 (N : Nat) : GoodF Pg 192 (FQ105 (sQ105 N)) := goodQ105 N
theorem gQ102 (N : Nat) : GoodF Pg 181 (FQ102 (sQ102 N)) := goodQ102 N _ _ (gQ105 N) (gQ68 N)
theorem gQ130 (N : Nat) : GoodF Pg 159 (FQ130 (sQ130 N)) := goodQ130 N _ _ (gQ102 N) (gQ1 N)
theorem gQ53 (N : Nat) : GoodF Pg 131 (FQ53 (sQ53 N)) := goodQ53 N _ _ (gQ130 N) (gQ0 N)
theorem gQ19 (N : Nat) : GoodF Pg 87 (FQ19 (sQ19 N)) := goodQ19 N _ (gQ53 N)
theorem gQ81 (N : Nat) : GoodF Pg 94 (FQ81 (sQ81 N)) := goodQ81 N
theorem gQ2 (N : Nat) : GoodF Pg 94 (FQ2 (sQ2 N)) := goodQ2 N
theorem gQ103 (N : Nat) : GoodF Pg 169 (FQ103 (sQ103 N)) := goodQ103 N _ (gQ1 N)
theorem gQ65 (N : Nat) : GoodF Pg 141 (FQ65 (sQ65 N)) := goodQ65 N _ _ (gQ103 N) (gQ0 N)
theorem gQ36 (N : Nat) : GoodF Pg 128 (FQ36 (sQ36 N)) := goodQ36 N _ (gQ65 N)
theorem gQ20 (N : Nat) : GoodF Pg 170 (FQ20 (sQ20 N)) := goodQ20 N
theorem gQ145 (N : Nat) : GoodF Pg 166 (FQ145 (sQ145 N)) := goodQ145 N _ _ _ (gQ20 N) (gQ68 N) (gQ1 N)
theorem gQ111 (N : Nat) : GoodF Pg 177 (FQ111 (sQ111 N)) := goodQ111 N
theorem gQ151 (N : Nat) : GoodF Pg 178 (FQ151 (sQ151 N)) := goodQ151 N _ _ _ (gQ20 N) (gQ95 N) (gQ1 N)
theorem gQ62 (N : Nat) : GoodF Pg 156 (FQ62 (sQ62 N)) := goodQ62 N _ _ _ _ (gQ145 N) (gQ0 N) (gQ111 N) (gQ151 N)
theorem gQ29 (N : Nat) : GoodF Pg 127 (FQ29 (sQ29 N)) := goodQ29 N _ (gQ62 N)
theorem gQ21 (N : Nat) : GoodF Pg 85 (FQ21 (sQ21 N)) := goodQ21 N _ _ _ _ (gQ81 N) (gQ2 N) (gQ36 N) (gQ29 N)
theorem gQ3 (N : Nat) : GoodF Pg 85 (FQ3 (sQ3 N)) := goodQ3 N _ _ _ (gQ2 N) (gQ36 N) (gQ29 N)
theorem gQ37 (N : Nat) : GoodF Pg 160 (FQ37 (sQ37 N)) := goodQ37 N _ _ (gQ77 N) (gQ0 N)
theorem gQ55 (N : Nat) : GoodF Pg 161 (FQ55 (sQ55 N)) := goodQ55 N _ (gQ20 N)
theorem gQ14 (N : Nat) : GoodF Pg 162 (FQ14 (sQ14 N)) := goodQ14 N _ (gQ6 N)
theorem gQ127 (N : Nat) : GoodF Pg 165 (FQ127 (sQ127 N)) := goodQ127 N _ _ (gQ20 N) (gQ1 N)
theorem gQ18 (N : Nat) : GoodF Pg 136 (FQ18 (sQ18 N)) := goodQ18 N _ _ _ (gQ127 N) (gQ145 N) (gQ35 N)
theorem gQ22 (N : Nat) : GoodF Pg 132 (FQ22 (sQ22 N)) := goodQ22 N _ _ _ _ _ (gQ37 N) (gQ2 N) (gQ55 N) (gQ14 N) (gQ18 N)
theorem gQ94 (N : Nat) : GoodF Pg 182 (FQ94 (sQ94 N)) := goodQ94 N
theorem gQ129 (N : Nat) : GoodF Pg 163 (FQ129 (sQ129 N)) := goodQ129 N _ (gQ94 N)
theorem gQ39 (N : Nat) : GoodF Pg 133 (FQ39 (sQ39 N)) := goodQ39 N _ (gQ129 N)
theorem gQ58 (N : Nat) : GoodF Pg 164 (FQ58 (sQ58 N)) := goodQ58 N _ _ (gQ124 N) (gQ0 N)
theorem gQ61 (N : Nat) : GoodF Pg 134 (FQ61 (sQ61 N)) := goodQ61 N _ (gQ58 N)
theorem gQ38 (N : Nat) : GoodF Pg 135 (FQ38 (sQ38 N)) := goodQ38 N _ _ (gQ77 N) (gQ0 N)
theorem gQ45 (N : Nat) : GoodF Pg 139 (FQ45 (sQ45 N)) := goodQ45 N
theorem gQ25 (N : Nat) : GoodF Pg 137 (FQ25 (sQ25 N)) := goodQ25 N _ _ (gQ1 N) (gQ45 N)
theorem gQ173 (N : Nat) : GoodF Pg 168 (FQ173 (sQ173 N)) := goodQ173 N _ (gQ20 N)
theorem gQ40 (N : Nat) : GoodF Pg 138 (FQ40 (sQ40 N)) := goodQ40 N _ (gQ173 N)
theorem gQ15 (N : Nat) : GoodF Pg 88 (FQ15 (sQ15 N)) := goodQ15 N _ _ _ _ _ _ _ _ (gQ22 N) (gQ2 N) (gQ39 N) (gQ61 N) (gQ38 N) (gQ25 N) (gQ40 N) (gQ18 N)
theorem gQ85 (N : Nat) : GoodF Pg 44 (FQ85 (sQ85 N)) := goodQ85 N _ _ _ _ _ _ (gQ69 N) (gQ146 N) (gQ19 N) (gQ21 N) (gQ3 N) (gQ15 N)
theorem gQ122 (N : Nat) : GoodF Pg 92 (FQ122 (sQ122 N)) := goodQ122 N
theorem gQ47 (N : Nat) : GoodF Pg 141 (FQ47 (sQ47 N)) := goodQ47 N _ _ (gQ103 N) (gQ0 N)
theorem gQ46 (N : Nat) : GoodF Pg 139 (FQ46 (sQ46 N)) := goodQ46 N
theorem gQ33 (N : Nat) : GoodF Pg 142 (FQ33 (sQ33 N)) := goodQ33 N _ _ _ (gQ20 N) (gQ1 N) (gQ46 N)
theorem gQ48 (N : Nat) : GoodF Pg 141 (FQ48 (sQ48 N)) := goodQ48 N _ _ (gQ103 N) (gQ35 N)
theorem gQ107 (N : Nat) : GoodF Pg 93 (FQ107 (sQ107 N)) := goodQ107 N _ _ _ _ _ (gQ47 N) (gQ61 N) (gQ33 N) (gQ48 N) (gQ27 N)
theorem gQ44 (N : Nat) : GoodF Pg 91 (FQ44 (sQ44 N)) := goodQ44 N _ _ (gQ77 N) (gQ0 N)
theorem gQ70 (N : Nat) : GoodF Pg 90 (FQ70 (sQ70 N)) := goodQ70 N _ _ (gQ44 N) (gQ3 N)
theorem gQ117 (N : Nat) : GoodF Pg 89 (FQ117 (sQ117 N)) := goodQ117 N _ _ _ _ (gQ122 N) (gQ107 N) (gQ70 N) (gQ15 N)
theorem gQ86 (N : Nat) : GoodF Pg 45 (FQ86 (sQ86 N)) := goodQ86 N _ (gQ117 N)
theorem gQ41 (N : Nat) : GoodF Pg 46 (FQ41 (sQ41 N)) := goodQ41 N _ _ _ _ _ (gQ122 N) (gQ107 N) (gQ44 N) (gQ3 N) (gQ2 N)
theorem gQ92 (N : Nat) : GoodF Pg 11 (FQ92 (sQ92 N)) := goodQ92 N _ _ _ _ _ (gQ17 N) (gQ26 N) (gQ85 N) (gQ86 N) (gQ41 N)
theorem gQ84 (N : Nat) : GoodF Pg 41 (FQ84 (sQ84 N)) := goodQ84 N
theorem gQ9 (N : Nat) : GoodF Pg 8 (FQ9 (sQ9 N)) := goodQ9 N _ _ _ _ _ (gQ13 N) (gQ142 N) (gQ123 N) (gQ92 N) (gQ84 N)
theorem gQ11 (N : Nat) : GoodF Pg 39 (FQ11 (sQ11 N)) := goodQ11 N _ (gQ82 N)
theorem gQ5 (N : Nat) : GoodF Pg 9 (FQ5 (sQ5 N)) := goodQ5 N _ (gQ11 N)
theorem gQ128 (N : Nat) : GoodF Pg 108 (FQ128 (sQ128 N)) := goodQ128 N
theorem gQ162 (N : Nat) : GoodF Pg 151 (FQ162 (sQ162 N)) := goodQ162 N _ (gQ114 N)
theorem gQ90 (N : Nat) : GoodF Pg 115 (FQ90 (sQ90 N)) := goodQ90 N _ (gQ162 N)
theorem gQ109 (N : Nat) : GoodF Pg 175 (FQ109 (sQ109 N)) := goodQ109 N
theorem gQ140 (N : Nat) : GoodF Pg 150 (FQ140 (sQ140 N)) := goodQ140 N _ _ (gQ90 N) (gQ109 N)
theorem gQ99 (N : Nat) : GoodF Pg 107 (FQ99 (sQ99 N)) := goodQ99 N _ (gQ140 N)
theorem gQ91 (N : Nat) : GoodF Pg 102 (FQ91 (sQ91 N)) := goodQ91 N _ (gQ99 N)
theorem gQ132 (N : Nat) : GoodF Pg 78 (FQ132 (sQ132 N)) := goodQ132 N _ _ (gQ128 N) (gQ91 N)
theorem gQ125 (N : Nat) : GoodF Pg 100 (FQ125 (sQ125 N)) := goodQ125 N
theorem gQ139 (N : Nat) : GoodF Pg 116 (FQ139 (sQ139 N)) := goodQ139 N
theorem gQ134 (N : Nat) : GoodF Pg 66 (FQ134 (sQ134 N)) := goodQ134 N _ _ (gQ90 N) (gQ139 N)
theorem gQ16 (N : Nat) : GoodF Pg 147 (FQ16 (sQ16 N)) := goodQ16 N
theorem gQ113 (N : Nat) : GoodF Pg 117 (FQ113 (sQ113 N)) := goodQ113 N _ (gQ16 N)
theorem gQ167 (N : Nat) : GoodF Pg 147 (FQ167 (sQ167 N)) := goodQ167 N
theorem gQ51 (N : Nat) : GoodF Pg 99 (FQ51 (sQ51 N)) := goodQ51 N _ (gQ167 N)
theorem gQ75 (N : Nat) : GoodF Pg 67 (FQ75 (sQ75 N)) := goodQ75 N _ _ (gQ113 N) (gQ51 N)
theorem gQ110 (N : Nat) : GoodF Pg 99 (FQ110 (sQ110 N)) := goodQ110 N _ (gQ16 N)
theorem gQ106 (N : Nat) : GoodF Pg 55 (FQ106 (sQ106 N)) := goodQ106 N _ (gQ110 N)
theorem gQ166 (N : Nat) : GoodF Pg 28 (FQ166 (sQ166 N)) := goodQ166 N _ _ _ (gQ134 N) (gQ75 N) (gQ106 N)
theorem gQ131 (N : Nat) : GoodF Pg 101 (FQ131 (sQ131 N)) := goodQ131 N _ (gQ16 N)
theorem gQ79 (N : Nat) : GoodF Pg 57 (FQ79 (sQ79 N)) := goodQ79 N _ _ (gQ131 N) (gQ51 N)
theorem gQ24 (N : Nat) : GoodF Pg 19 (FQ24 (sQ24 N)) := goodQ24 N _ (gQ79 N)
theorem gQ119 (N : Nat) : GoodF Pg 52 (FQ119 (sQ119 N)) := goodQ119 N
theorem gQ64 (N : Nat) : GoodF Pg 52 (FQ64 (sQ64 N)) := goodQ64 N
theorem gQ152 (N : Nat) : GoodF Pg 146 (FQ152 (sQ152 N)) := goodQ152 N _ (gQ16 N)
theorem gQ97 (N : Nat) : GoodF Pg 98 (FQ97 (sQ97 N)) := goodQ97 N _ _ (gQ152 N) (gQ51 N)
theorem gQ34 (N : Nat) : GoodF Pg 54 (FQ34 (sQ34 N)) := goodQ34 N _ (gQ97 N)
theorem gQ153 (N : Nat) : GoodF Pg 143 (FQ153 (sQ153 N)) := goodQ153 N _ (gQ16 N)
theorem gQ112 (N : Nat) : GoodF Pg 144 (FQ112 (sQ112 N)) := goodQ112 N
theorem gQ135 (N : Nat) : GoodF Pg 145 (FQ135 (sQ135 N)) := goodQ135 N _ (gQ16 N)
theorem gQ80 (N : Nat) : GoodF Pg 97 (FQ80 (sQ80 N)) := goodQ80 N _ _ _ _ (gQ153 N) (gQ51 N) (gQ112 N) (gQ135 N)
theorem gQ49 (N : Nat) : GoodF Pg 53 (FQ49 (sQ49 N)) := goodQ49 N _ (gQ80 N)
theorem gQ23 (N : Nat) : GoodF Pg 15 (FQ23 (sQ23 N)) := goodQ23 N _ _ _ _ (gQ119 N) (gQ64 N) (gQ34 N) (gQ49 N)
theorem gQ8 (N : Nat) : GoodF Pg 15 (FQ8 (sQ8 N)) := goodQ8 N _ _ _ (gQ64 N) (gQ34 N) (gQ49 N)
theorem gQ168 (N : Nat) : GoodF Pg 56 (FQ168 (sQ168 N)) := goodQ168 N _ _ _ _ _ (gQ125 N) (gQ166 N) (gQ24 N) (gQ23 N) (gQ8 N)
theorem gQ87 (N : Nat) : GoodF Pg 96 (FQ87 (sQ87 N)) := goodQ87 N _ _ (gQ113 N) (gQ51 N)
theorem gQ93 (N : Nat) : GoodF Pg 51 (FQ93 (sQ93 N)) := goodQ93 N _ (gQ87 N)
theorem gQ144 (N : Nat) : GoodF Pg 14 (FQ144 (sQ144 N)) := goodQ144 N _ (gQ93 N)
theorem gQ83 (N : Nat) : GoodF Pg 99 (FQ83 (sQ83 N)) := goodQ83 N _ (gQ16 N)
theorem gQ96 (N : Nat) : GoodF Pg 74 (FQ96 (sQ96 N)) := goodQ96 N _ (gQ83 N)
theorem gQ57 (N : Nat) : GoodF Pg 34 (FQ57 (sQ57 N)) := goodQ57 N _ (gQ96 N)
theorem gQ118 (N : Nat) : GoodF Pg 79 (FQ118 (sQ118 N)) := goodQ118 N _ _ _ _ _ (gQ128 N) (gQ168 N) (gQ144 N) (gQ8 N) (gQ57 N)
theorem gQ143 (N : Nat) : GoodF Pg 16 (FQ143 (sQ143 N)) := goodQ143 N _ (gQ93 N)
theorem gQ98 (N : Nat) : GoodF Pg 55 (FQ98 (sQ98 N)) := goodQ98 N _ (gQ83 N)
theorem gQ63 (N : Nat) : GoodF Pg 17 (FQ63 (sQ63 N)) := goodQ63 N _ (gQ98 N)
theorem gQ50 (N : Nat) : GoodF Pg 20 (FQ50 (sQ50 N)) := goodQ50 N _ _ _ (gQ63 N) (gQ8 N) (gQ64 N)
theorem gQ4 (N : Nat) : GoodF Pg 36 (FQ4 (sQ4 N)) := goodQ4 N _ _ _ _ _ (gQ92 N) (gQ132 N) (gQ118 N) (gQ143 N) (gQ50 N)
theorem gQ54 (N : Nat) : GoodF Pg 21 (FQ54 (sQ54 N)) := goodQ54 N _ _ (gQ123 N) (gQ13 N)
theorem gQ154 (N : Nat) : GoodF Pg 80 (FQ154 (sQ154 N)) := goodQ154 N _ (gQ82 N)
theorem gQ10 (N : Nat) : GoodF Pg 37 (FQ10 (sQ10 N)) := goodQ10 N _ (gQ154 N)
theorem gQ115 (N : Nat) : GoodF Pg 118 (FQ115 (sQ115 N)) := goodQ115 N
theorem gQ76 (N : Nat) : GoodF Pg 70 (FQ76 (sQ76 N)) := goodQ76 N _ _ (gQ115 N) (gQ69 N)
theorem gQ30 (N : Nat) : GoodF Pg 71 (FQ30 (sQ30 N)) := goodQ30 N
theorem gQ56 (N : Nat) : GoodF Pg 30 (FQ56 (sQ56 N)) := goodQ56 N _ _ _ _ _ (gQ76 N) (gQ30 N) (gQ12 N) (gQ72 N) (gQ13 N)
theorem gQ7 (N : Nat) : GoodF Pg 10 (FQ7 (sQ7 N)) := goodQ7 N _ (gQ11 N)
theorem gQ42 (N : Nat) : GoodF Pg 32 (FQ42 (sQ42 N)) := goodQ42 N _ (gQ13 N)
theorem gQ170 (N : Nat) : GoodF Pg 119 (FQ170 (sQ170 N)) := goodQ170 N _ (gQ69 N)
theorem gQ148 (N : Nat) : GoodF Pg 152 (FQ148 (sQ148 N)) := goodQ148 N _ _ (g_m_Abs N) (gQ120 N)
theorem gQ133 (N : Nat) : GoodF Pg 153 (FQ133 (sQ133 N)) := goodQ133 N _ _ (gQ101 N) (gQ149 N)
theorem gQ137 (N : Nat) : GoodF Pg 120 (FQ137 (sQ137 N)) := goodQ137 N _ _ _ (gQ148 N) (gQ133 N) (gQ101 N)
theorem gQ141 (N : Nat) : GoodF Pg 121 (FQ141 (sQ141 N)) := goodQ141 N
theorem gQ136 (N : Nat) : GoodF Pg 73 (FQ136 (sQ136 N)) := goodQ136 N _ _ _ (gQ170 N) (gQ137 N) (gQ141 N)
theorem gQ73 (N : Nat) : GoodF Pg 65 (FQ73 (sQ73 N)) := goodQ73 N _ (gQ136 N)
theorem gQ28 (N : Nat) : GoodF Pg 27 (FQ28 (sQ28 N)) := goodQ28 N _ _ _ _ _ _ (gQ12 N) (gQ73 N) (gQ60 N) (gQ26 N) (g_m_Abs N) (gQ13 N)
theorem gQ157 (N : Nat) : GoodF Pg 125 (FQ157 (sQ157 N)) := goodQ157 N _ _ (gQ59 N) (gQ12 N)
theorem gQ104 (N : Nat) : GoodF Pg 81 (FQ104 (sQ104 N)) := goodQ104 N _ (gQ157 N)
theorem gQ71 (N : Nat) : GoodF Pg 38 (FQ71 (sQ71 N)) := goodQ71 N _ _ _ _ _ _ _ (gQ59 N) (gQ12 N) (gQ104 N) (gQ26 N) (gQ108 N) (gQ72 N) (gQ13 N)
theorem tQ43 (N : Nat) (x_0 x_1 x_2 x_3 y_0 y_1 y_2 y_3 u_0 u_1 u_2 v_0 v_1 v_2 m_0 m_1 : Int) (m_2 : List Int) (t : Int) (hG : sQ43 N x_0 x_1 x_2 x_3 y_0 y_1 y_2 y_3 u_0 u_1 u_2 v_0 v_1 v_2 m_0 m_1 m_2 t (fun b => b) = true) : OkC Pg 7 (shFQ43.args [.int x_0, .int x_1, .int x_2, .int x_3, .int y_0, .int y_1, .int y_2, .int y_3, .int u_0, .int u_1, .int u_2, .int v_0, .int v_1, .int v_2, .int m_0, .int m_1, .ints m_2, .int t]) [] (.bool true) [] :=
  topQ43 N _ _ _ _ _ _ _ _ _ _ _ _ (gQ9 N) (gQ5 N) (gQ13 N) (gQ4 N) (gQ54 N) (gQ10 N) (gQ56 N) (gQ7 N) (gQ42 N) (gQ28 N) (gQ11 N) (gQ71 N) x_0 x_1 x_2 x_3 y_0 y_1 y_2 y_3 u_0 u_1 u_2 v_0 v_1 v_2 m_0 m_1 m_2 t hG
end Go.Proofs.YtnfgnjciliapaaaGreatDoor
end
