/-
  The program's functions without a body, and those that look at bits, tied to their meanings.
  Conditions: none.
-/
import Derived.Test.YtnfgnjciliapaaaGreatDoorGs
import Derived.Test.YtnfgnjciliapaaaGreatDoorMachP
import Derived.Test.YtnfgnjciliapaaaGreatDoorL1
import Derived.Test.YtnfgnjciliapaaaGreatDoorGt0
import Derived.Test.YtnfgnjciliapaaaGreatDoorGt1
import Derived.Test.YtnfgnjciliapaaaGreatDoorGt2
import Derived.Test.YtnfgnjciliapaaaGreatDoorGt3
import Derived.Test.YtnfgnjciliapaaaGreatDoorGt4
section
namespace Go.Proofs.YtnfgnjciliapaaaGreatDoor
open Go Go.Mach Go.Proofs
set_option maxRecDepth 20000
theorem gZ137 (N : Nat) : GoodF Pg 95 (FZ137 (sZ137 N)) :=
 good_mono (good_bits_fb (fn := Tryz.f95) (by kernel_rfl) (by kernel_rfl) (by kernel_rfl) (by kernel_rfl) (by kernel_rfl)) fun a k h => by
  unfold spZ137 at h; split at h
  ·exact h
  ·cases h
theorem gZ106 (N : Nat) : GoodF Pg 95 (FZ106 (sZ106 N)) :=
 good_mono (good_bits (fn := Tryz.f95) (by kernel_rfl) (by kernel_rfl) (by kernel_rfl) (by kernel_rfl) (by kernel_rfl)) fun a k h => by
  unfold spZ106 sZ106 at h; split at h
  ·split at h
   ·exact h
   ·cases h
  ·cases h
theorem gZ89 (N : Nat) : GoodF Pg 82 (FZ89 (sZ89 N)) :=
 good_mono (good_frombits (fn := Tryz.f82) (by kernel_rfl) (by kernel_rfl) (by kernel_rfl) (by kernel_rfl) (by kernel_rfl)) fun a k h => by
  unfold spZ89 at h; split at h
  ·exact h
  ·cases h
theorem gZ165 (N : Nat) : GoodF Pg 124 (FZ165 (sZ165 N)) :=
 good_mono (good_sqrt (fn := Tryz.f124) (by kernel_rfl) (by kernel_rfl) (by kernel_rfl) (by kernel_rfl) (by kernel_rfl) sqrt_nan) fun a k h => by
  unfold spZ165 at h; split at h
  ·exact h
  ·cases h
theorem gZ65 (N : Nat) : GoodF Pg 183 (FZ65 (sZ65 N)) :=
 good_mono (good_add64 (fn := Tryz.f183) (by kernel_rfl) (by kernel_rfl) (by kernel_rfl) (by kernel_rfl) (by kernel_rfl)) fun a k h => by
  unfold spZ65 at h; split at h
  ·exact h
  ·cases h
theorem gZ91 (N : Nat) : GoodF Pg 191 (FZ91 (sZ91 N)) :=
 good_mono (good_sub64 (fn := Tryz.f191) (by kernel_rfl) (by kernel_rfl) (by kernel_rfl) (by kernel_rfl) (by kernel_rfl)) fun a k h => by
  unfold spZ91 at h; split at h
  ·exact h
  ·cases h
theorem xZ129 (N : Nat) (h : GoodF Pg 126 (FZ145 (sZ145 N))) : GoodF Pg 126 (FZ129 (sZ129 N)) := by
 have q : ∀ b, clsF (cn (some b)) = clsF (some b) := by
  intro b; by_cases hb : isNaN b = true <;> simp [cn, clsF, cls, hb]
 refine good_lift1 (spZ129 (sZ129 N)) (fun x => .int .i64 (clsF x)) h rfl (fun a k hk => ?_) (fun b k => ?_) (fun b => by rw [q])
 ·unfold spZ129 at hk; split at hk
  ·exact ⟨_, rfl, hk⟩
  ·cases hk
 ·have e : FZ145 (sZ145 N) [.val (.float .f64 b)] [] k = sZ145 N b (fun r0 => k (.int .i64 r0) []) := by kernel_rfl
  rw [e, law_Class, q]; rfl
theorem x_m_Abs (N : Nat) (h : GoodF Pg 47 (FZ157 (sZ157 N))) : GoodF Pg 47 (F_m_Abs (s_m_Abs N)) := by
 have q : ∀ b, absF (cn (some b)) = absF (some b) := by
  intro b
  by_cases hb : isNaN b = true
  ·have hb' := (isNaN_iff b).1 hb
   have : isNaN (b % 9223372036854775808) = true := (isNaN_iff _).2 (by omega)
   simp [cn, absF, canon, hb, this]
  ·simp [cn, hb]
 refine good_lift1 (sp_m_Abs (s_m_Abs N)) (fun x => .flt (absF x)) h rfl (fun a k hk => ?_) (fun b k => ?_) (fun b => by rw [q])
 ·unfold sp_m_Abs at hk; split at hk
  ·exact ⟨_, rfl, hk⟩
  ·cases hk
 ·have e : FZ157 (sZ157 N) [.val (.float .f64 b)] [] k = sZ157 N b (fun r0 => k (.flt r0) []) := by kernel_rfl
  rw [e, law_Abs, q]
end Go.Proofs.YtnfgnjciliapaaaGreatDoor
end
section
namespace Go.Proofs.YtnfgnjciliapaaaGreatDoor
open Go Go.Mach Go.Proofs
set_option linter.unusedVariables false
theorem g_an_of (N : Nat) : GoodF Pg 155 (F_an_of (s_an_of N)) := good_an_of N
theorem gZ139 (N : Nat) : GoodF Pg 190 (FZ139 (sZ139 N)) := goodZ139 N
theorem gZ88 (N : Nat) : GoodF Pg 209 (FZ88 (sZ88 N)) := goodZ88 N
theorem gZ86 (N : Nat) : GoodF Pg 201 (FZ86 (sZ86 N)) := goodZ86 N _ _ (gZ139 N) (gZ88 N)
theorem gZ70 (N : Nat) : GoodF Pg 179 (FZ70 (sZ70 N)) := goodZ70 N
theorem gZ150 (N : Nat) : GoodF Pg 202 (FZ150 (sZ150 N)) := goodZ150 N _ _ (gZ88 N) (gZ70 N)
theorem gZ74 (N : Nat) : GoodF Pg 189 (FZ74 (sZ74 N)) := goodZ74 N _ _ (gZ86 N) (gZ150 N)
theorem gZ29 (N : Nat) : GoodF Pg 176 (FZ29 (sZ29 N)) := goodZ29 N _ _ _ (gZ74 N) (gZ139 N) (gZ70 N)
theorem gZ28 (N : Nat) : GoodF Pg 154 (FZ28 (sZ28 N)) := goodZ28 N _ (gZ29 N)
theorem gZ145 (N : Nat) : GoodF Pg 126 (FZ145 (sZ145 N)) := goodZ145 N _ _ _ (gZ137 N) (g_an_of N) (gZ28 N)
theorem gZ157 (N : Nat) : GoodF Pg 47 (FZ157 (sZ157 N)) := goodZ157 N _ _ (gZ137 N) (gZ89 N)
theorem gZ14 (N : Nat) : GoodF Pg 48 (FZ14 (sZ14 N)) := goodZ14 N
theorem gZ10 (N : Nat) : GoodF Pg 42 (FZ10 (sZ10 N)) := goodZ10 N _ (gZ14 N)
theorem gZ51 (N : Nat) : GoodF Pg 43 (FZ51 (sZ51 N)) := goodZ51 N
theorem g_m_Abs (N : Nat) : GoodF Pg 47 (F_m_Abs (s_m_Abs N)) := x_m_Abs N (gZ157 N)
theorem gZ112 (N : Nat) : GoodF Pg 110 (FZ112 (sZ112 N)) := goodZ112 N _ (g_m_Abs N)
theorem gZ116 (N : Nat) : GoodF Pg 111 (FZ116 (sZ116 N)) := goodZ116 N
theorem gZ61 (N : Nat) : GoodF Pg 112 (FZ61 (sZ61 N)) := goodZ61 N _ (g_m_Abs N)
theorem gZ152 (N : Nat) : GoodF Pg 123 (FZ152 (sZ152 N)) := goodZ152 N _ _ _ _ _ (gZ112 N) (gZ116 N) (gZ61 N) (gZ106 N) (gZ89 N)
theorem gZ108 (N : Nat) : GoodF Pg 75 (FZ108 (sZ108 N)) := goodZ108 N _ (gZ152 N)
theorem gZ95 (N : Nat) : GoodF Pg 113 (FZ95 (sZ95 N)) := goodZ95 N _ _ (gZ106 N) (gZ89 N)
theorem g_m_Inf (N : Nat) : GoodF Pg 114 (F_m_Inf (s_m_Inf N)) := good_m_Inf N _ (gZ89 N)
theorem gZ147 (N : Nat) : GoodF Pg 64 (FZ147 (sZ147 N)) := goodZ147 N _ _ _ _ _ _ _ (gZ112 N) (gZ116 N) (gZ61 N) (gZ106 N) (gZ95 N) (g_m_Inf N) (gZ89 N)
theorem gZ48 (N : Nat) : GoodF Pg 26 (FZ48 (sZ48 N)) := goodZ48 N _ (gZ147 N)
theorem gZ138 (N : Nat) : GoodF Pg 76 (FZ138 (sZ138 N)) := goodZ138 N _ (gZ165 N)
theorem gZ133 (N : Nat) : GoodF Pg 77 (FZ133 (sZ133 N)) := goodZ133 N
theorem gZ62 (N : Nat) : GoodF Pg 35 (FZ62 (sZ62 N)) := goodZ62 N _ _ _ _ _ _ _ (gZ10 N) (gZ51 N) (g_m_Abs N) (gZ108 N) (gZ48 N) (gZ138 N) (gZ133 N)
theorem gZ114 (N : Nat) : GoodF Pg 49 (FZ114 (sZ114 N)) := goodZ114 N
theorem gZ110 (N : Nat) : GoodF Pg 50 (FZ110 (sZ110 N)) := goodZ110 N _ (gZ14 N)
theorem gZ127 (N : Nat) : GoodF Pg 13 (FZ127 (sZ127 N)) := goodZ127 N _ _ _ _ (gZ10 N) (gZ14 N) (gZ114 N) (gZ110 N)
theorem gZ79 (N : Nat) : GoodF Pg 42 (FZ79 (sZ79 N)) := goodZ79 N _ (gZ14 N)
theorem gZ146 (N : Nat) : GoodF Pg 83 (FZ146 (sZ146 N)) := goodZ146 N
theorem gZ87 (N : Nat) : GoodF Pg 72 (FZ87 (sZ87 N)) := goodZ87 N _ (gZ10 N)
theorem gZ118 (N : Nat) : GoodF Pg 40 (FZ118 (sZ118 N)) := goodZ118 N _ _ _ (gZ79 N) (gZ146 N) (gZ87 N)
theorem gZ129 (N : Nat) : GoodF Pg 126 (FZ129 (sZ129 N)) := xZ129 N (gZ145 N)
theorem gZ66 (N : Nat) : GoodF Pg 84 (FZ66 (sZ66 N)) := goodZ66 N _ (gZ129 N)
theorem gZ9 (N : Nat) : GoodF Pg 180 (FZ9 (sZ9 N)) := goodZ9 N
theorem gZ63 (N : Nat) : GoodF Pg 157 (FZ63 (sZ63 N)) := goodZ63 N _ _ _ _ (gZ29 N) (gZ28 N) (gZ70 N) (gZ9 N)
theorem gZ143 (N : Nat) : GoodF Pg 129 (FZ143 (sZ143 N)) := goodZ143 N _ _ _ (gZ106 N) (g_an_of N) (gZ63 N)
theorem gZ5 (N : Nat) : GoodF Pg 167 (FZ5 (sZ5 N)) := goodZ5 N
theorem gZ115 (N : Nat) : GoodF Pg 158 (FZ115 (sZ115 N)) := goodZ115 N _ (gZ5 N)
theorem gZ4 (N : Nat) : GoodF Pg 139 (FZ4 (sZ4 N)) := goodZ4 N
theorem gZ45 (N : Nat) : GoodF Pg 130 (FZ45 (sZ45 N)) := goodZ45 N _ _ (gZ115 N) (gZ4 N)
theorem gZ73 (N : Nat) : GoodF Pg 140 (FZ73 (sZ73 N)) := goodZ73 N
theorem gZ31 (N : Nat) : GoodF Pg 139 (FZ31 (sZ31 N)) := goodZ31 N
theorem gZ25 (N : Nat) : GoodF Pg 91 (FZ25 (sZ25 N)) := goodZ25 N _ _ (gZ73 N) (gZ31 N)
theorem gZ135 (N : Nat) : GoodF Pg 86 (FZ135 (sZ135 N)) := goodZ135 N _ _ _ (gZ143 N) (gZ45 N) (gZ25 N)
theorem gZ98 (N : Nat) : GoodF Pg 192 (FZ98 (sZ98 N)) := goodZ98 N
theorem gZ96 (N : Nat) : GoodF Pg 181 (FZ96 (sZ96 N)) := goodZ96 N _ _ (gZ98 N) (gZ65 N)
theorem gZ121 (N : Nat) : GoodF Pg 159 (FZ121 (sZ121 N)) := goodZ121 N _ _ (gZ96 N) (gZ5 N)
theorem gZ47 (N : Nat) : GoodF Pg 131 (FZ47 (sZ47 N)) := goodZ47 N _ _ (gZ121 N) (gZ4 N)
theorem gZ17 (N : Nat) : GoodF Pg 87 (FZ17 (sZ17 N)) := goodZ17 N _ (gZ47 N)
theorem gZ78 (N : Nat) : GoodF Pg 94 (FZ78 (sZ78 N)) := goodZ78 N
theorem gZ7 (N : Nat) : GoodF Pg 94 (FZ7 (sZ7 N)) := goodZ7 N
theorem gZ97 (N : Nat) : GoodF Pg 169 (FZ97 (sZ97 N)) := goodZ97 N _ (gZ5 N)
theorem gZ60 (N : Nat) : GoodF Pg 141 (FZ60 (sZ60 N)) := goodZ60 N _ _ (gZ97 N) (gZ4 N)
theorem gZ33 (N : Nat) : GoodF Pg 128 (FZ33 (sZ33 N)) := goodZ33 N _ (gZ60 N)
theorem gZ18 (N : Nat) : GoodF Pg 170 (FZ18 (sZ18 N)) := goodZ18 N
theorem gZ134 (N : Nat) : GoodF Pg 166 (FZ134 (sZ134 N)) := goodZ134 N _ _ _ (gZ18 N) (gZ65 N) (gZ5 N)
theorem gZ102 (N : Nat) : GoodF Pg 177 (FZ102 (sZ102 N)) := goodZ102 N
theorem gZ140 (N : Nat) : GoodF Pg 178 (FZ140 (sZ140 N)) := goodZ140 N _ _ _ (gZ18 N) (gZ91 N) (gZ5 N)
theorem gZ56 (N : Nat) : GoodF Pg 156 (FZ56 (sZ56 N)) := goodZ56 N _ _ _ _ (gZ134 N) (gZ4 N) (gZ102 N) (gZ140 N)
theorem gZ26 (N : Nat) : GoodF Pg 127 (FZ26 (sZ26 N)) := goodZ26 N _ (gZ56 N)
theorem gZ21 (N : Nat) : GoodF Pg 85 (FZ21 (sZ21 N)) := goodZ21 N _ _ _ _ (gZ78 N) (gZ7 N) (gZ33 N) (gZ26 N)
theorem gZ8 (N : Nat) : GoodF Pg 85 (FZ8 (sZ8 N)) := goodZ8 N _ _ _ (gZ7 N) (gZ33 N) (gZ26 N)
theorem gZ34 (N : Nat) : GoodF Pg 160 (FZ34 (sZ34 N)) := goodZ34 N _ _ (gZ73 N) (gZ4 N)
theorem gZ49 (N : Nat) : GoodF Pg 161 (FZ49 (sZ49 N)) := goodZ49 N _ (gZ18 N)
theorem gZ11 (N : Nat) : GoodF Pg 162 (FZ11 (sZ11 N)) := goodZ11 N _ (gZ9 N)
theorem gZ117 (N : Nat) : GoodF Pg 165 (FZ117 (sZ117 N)) := goodZ117 N _ _ (gZ18 N) (gZ5 N)
theorem gZ16 (N : Nat) : GoodF Pg 136 (FZ16 (sZ16 N)) := goodZ16 N _ _ _ (gZ117 N) (gZ134 N) (gZ31 N)
theorem gZ22 (N : Nat) : GoodF Pg 132 (FZ22 (sZ22 N)) := goodZ22 N _ _ _ _ _ (gZ34 N) (gZ7 N) (gZ49 N) (gZ11 N) (gZ16 N)
theorem gZ90 (N : Nat) : GoodF Pg 182 (FZ90 (sZ90 N)) := goodZ90 N
theorem gZ119 (N : Nat) : GoodF Pg 163 (FZ119 (sZ119 N)) := goodZ119 N _ (gZ90 N)
theorem gZ36 (N : Nat) : GoodF Pg 133 (FZ36 (sZ36 N)) := goodZ36 N _ (gZ119 N)
theorem gZ53 (N : Nat) : GoodF Pg 164 (FZ53 (sZ53 N)) := goodZ53 N _ _ (gZ115 N) (gZ4 N)
theorem gZ55 (N : Nat) : GoodF Pg 134 (FZ55 (sZ55 N)) := goodZ55 N _ (gZ53 N)
theorem gZ35 (N : Nat) : GoodF Pg 135 (FZ35 (sZ35 N)) := goodZ35 N _ _ (gZ73 N) (gZ4 N)
theorem gZ40 (N : Nat) : GoodF Pg 139 (FZ40 (sZ40 N)) := goodZ40 N
theorem gZ24 (N : Nat) : GoodF Pg 137 (FZ24 (sZ24 N)) := goodZ24 N _ _ (gZ5 N) (gZ40 N)
theorem gZ151 (N : Nat) : GoodF Pg 168 (FZ151 (sZ151 N)) := goodZ151 N _ (gZ18 N)
theorem gZ37 (N : Nat) : GoodF Pg 138 (FZ37 (sZ37 N)) := goodZ37 N _ (gZ151 N)
theorem gZ12 (N : Nat) : GoodF Pg 88 (FZ12 (sZ12 N)) := goodZ12 N _ _ _ _ _ _ _ _ (gZ22 N) (gZ7 N) (gZ36 N) (gZ55 N) (gZ35 N) (gZ24 N) (gZ37 N) (gZ16 N)
theorem gZ83 (N : Nat) : GoodF Pg 44 (FZ83 (sZ83 N)) := goodZ83 N _ _ _ _ _ _ (gZ66 N) (gZ135 N) (gZ17 N) (gZ21 N) (gZ8 N) (gZ12 N)
theorem gZ113 (N : Nat) : GoodF Pg 92 (FZ113 (sZ113 N)) := goodZ113 N
theorem gZ42 (N : Nat) : GoodF Pg 141 (FZ42 (sZ42 N)) := goodZ42 N _ _ (gZ97 N) (gZ4 N)
theorem gZ41 (N : Nat) : GoodF Pg 139 (FZ41 (sZ41 N)) := goodZ41 N
theorem gZ30 (N : Nat) : GoodF Pg 142 (FZ30 (sZ30 N)) := goodZ30 N _ _ _ (gZ18 N) (gZ5 N) (gZ41 N)
theorem gZ43 (N : Nat) : GoodF Pg 141 (FZ43 (sZ43 N)) := goodZ43 N _ _ (gZ97 N) (gZ31 N)
theorem gZ100 (N : Nat) : GoodF Pg 93 (FZ100 (sZ100 N)) := goodZ100 N _ _ _ _ _ (gZ42 N) (gZ55 N) (gZ30 N) (gZ43 N) (gZ25 N)
theorem gZ39 (N : Nat) : GoodF Pg 91 (FZ39 (sZ39 N)) := goodZ39 N _ _ (gZ73 N) (gZ4 N)
theorem gZ67 (N : Nat) : GoodF Pg 90 (FZ67 (sZ67 N)) := goodZ67 N _ _ (gZ39 N) (gZ8 N)
theorem gZ109 (N : Nat) : GoodF Pg 89 (FZ109 (sZ109 N)) := goodZ109 N _ _ _ _ (gZ113 N) (gZ100 N) (gZ67 N) (gZ12 N)
theorem gZ84 (N : Nat) : GoodF Pg 45 (FZ84 (sZ84 N)) := goodZ84 N _ (gZ109 N)
theorem gZ38 (N : Nat) : GoodF Pg 46 (FZ38 (sZ38 N)) := goodZ38 N _ _ _ _ _ (gZ113 N) (gZ100 N) (gZ39 N) (gZ8 N) (gZ7 N)
theorem gZ54 (N : Nat) : GoodF Pg 11 (FZ54 (sZ54 N)) := goodZ54 N _ _ _ _ _ (gZ10 N) (gZ51 N) (gZ83 N) (gZ84 N) (gZ38 N)
theorem gZ81 (N : Nat) : GoodF Pg 41 (FZ81 (sZ81 N)) := goodZ81 N
theorem gZ19 (N : Nat) : GoodF Pg 8 (FZ19 (sZ19 N)) := goodZ19 N _ _ _ _ _ (gZ62 N) (gZ127 N) (gZ118 N) (gZ54 N) (gZ81 N)
theorem gZ50 (N : Nat) : GoodF Pg 39 (FZ50 (sZ50 N)) := goodZ50 N _ (gZ89 N)
theorem gZ15 (N : Nat) : GoodF Pg 9 (FZ15 (sZ15 N)) := goodZ15 N _ (gZ50 N)
theorem gZ20 (N : Nat) : GoodF Pg 10 (FZ20 (sZ20 N)) := goodZ20 N _ (gZ50 N)
theorem gZ58 (N : Nat) : GoodF Pg 24 (FZ58 (sZ58 N)) := goodZ58 N _ _ (gZ10 N) (gZ14 N)
theorem gZ107 (N : Nat) : GoodF Pg 118 (FZ107 (sZ107 N)) := goodZ107 N
theorem gZ72 (N : Nat) : GoodF Pg 70 (FZ72 (sZ72 N)) := goodZ72 N _ _ (gZ107 N) (gZ66 N)
theorem gZ27 (N : Nat) : GoodF Pg 71 (FZ27 (sZ27 N)) := goodZ27 N
theorem gZ77 (N : Nat) : GoodF Pg 30 (FZ77 (sZ77 N)) := goodZ77 N _ _ _ _ _ (gZ72 N) (gZ27 N) (gZ14 N) (gZ87 N) (gZ62 N)
theorem gZ132 (N : Nat) : GoodF Pg 23 (FZ132 (sZ132 N)) := goodZ132 N _ (gZ10 N)
theorem gZ149 (N : Nat) : GoodF Pg 119 (FZ149 (sZ149 N)) := goodZ149 N _ (gZ66 N)
theorem gZ136 (N : Nat) : GoodF Pg 152 (FZ136 (sZ136 N)) := goodZ136 N _ _ (g_m_Abs N) (gZ108 N)
theorem gZ124 (N : Nat) : GoodF Pg 153 (FZ124 (sZ124 N)) := goodZ124 N _ _ (gZ48 N) (gZ138 N)
theorem gZ123 (N : Nat) : GoodF Pg 120 (FZ123 (sZ123 N)) := goodZ123 N _ _ _ (gZ136 N) (gZ124 N) (gZ48 N)
theorem gZ130 (N : Nat) : GoodF Pg 121 (FZ130 (sZ130 N)) := goodZ130 N
theorem gZ120 (N : Nat) : GoodF Pg 73 (FZ120 (sZ120 N)) := goodZ120 N _ _ _ (gZ149 N) (gZ123 N) (gZ130 N)
theorem gZ68 (N : Nat) : GoodF Pg 31 (FZ68 (sZ68 N)) := goodZ68 N _ _ _ _ (gZ79 N) (gZ132 N) (gZ118 N) (gZ120 N)
theorem gZ23 (N : Nat) : GoodF Pg 12 (FZ23 (sZ23 N)) := goodZ23 N _ _ (g_m_Abs N) (gZ48 N)
theorem gZ57 (N : Nat) : GoodF Pg 32 (FZ57 (sZ57 N)) := goodZ57 N _ (gZ62 N)
theorem gZ69 (N : Nat) : GoodF Pg 33 (FZ69 (sZ69 N)) := goodZ69 N _ _ _ (gZ10 N) (gZ14 N) (gZ110 N)
theorem gZ144 (N : Nat) : GoodF Pg 151 (FZ144 (sZ144 N)) := goodZ144 N _ (gZ106 N)
theorem gZ105 (N : Nat) : GoodF Pg 115 (FZ105 (sZ105 N)) := goodZ105 N _ (gZ144 N)
theorem gZ131 (N : Nat) : GoodF Pg 116 (FZ131 (sZ131 N)) := goodZ131 N
theorem gZ125 (N : Nat) : GoodF Pg 66 (FZ125 (sZ125 N)) := goodZ125 N _ _ (gZ105 N) (gZ131 N)
theorem gZ13 (N : Nat) : GoodF Pg 147 (FZ13 (sZ13 N)) := goodZ13 N
theorem gZ104 (N : Nat) : GoodF Pg 117 (FZ104 (sZ104 N)) := goodZ104 N _ (gZ13 N)
theorem gZ148 (N : Nat) : GoodF Pg 147 (FZ148 (sZ148 N)) := goodZ148 N
theorem gZ44 (N : Nat) : GoodF Pg 99 (FZ44 (sZ44 N)) := goodZ44 N _ (gZ148 N)
theorem gZ71 (N : Nat) : GoodF Pg 67 (FZ71 (sZ71 N)) := goodZ71 N _ _ (gZ104 N) (gZ44 N)
theorem gZ101 (N : Nat) : GoodF Pg 99 (FZ101 (sZ101 N)) := goodZ101 N _ (gZ13 N)
theorem gZ99 (N : Nat) : GoodF Pg 55 (FZ99 (sZ99 N)) := goodZ99 N _ (gZ101 N)
theorem gZ59 (N : Nat) : GoodF Pg 28 (FZ59 (sZ59 N)) := goodZ59 N _ _ _ (gZ125 N) (gZ71 N) (gZ99 N)
theorem gZ80 (N : Nat) : GoodF Pg 99 (FZ80 (sZ80 N)) := goodZ80 N _ (gZ13 N)
theorem gZ94 (N : Nat) : GoodF Pg 55 (FZ94 (sZ94 N)) := goodZ94 N _ (gZ80 N)
theorem gZ6 (N : Nat) : GoodF Pg 17 (FZ6 (sZ6 N)) := goodZ6 N _ (gZ94 N)
theorem gZ82 (N : Nat) : GoodF Pg 52 (FZ82 (sZ82 N)) := goodZ82 N
theorem gZ141 (N : Nat) : GoodF Pg 146 (FZ141 (sZ141 N)) := goodZ141 N _ (gZ13 N)
theorem gZ93 (N : Nat) : GoodF Pg 98 (FZ93 (sZ93 N)) := goodZ93 N _ _ (gZ141 N) (gZ44 N)
theorem gZ52 (N : Nat) : GoodF Pg 54 (FZ52 (sZ52 N)) := goodZ52 N _ (gZ93 N)
theorem gZ142 (N : Nat) : GoodF Pg 143 (FZ142 (sZ142 N)) := goodZ142 N _ (gZ13 N)
theorem gZ103 (N : Nat) : GoodF Pg 144 (FZ103 (sZ103 N)) := goodZ103 N
theorem gZ126 (N : Nat) : GoodF Pg 145 (FZ126 (sZ126 N)) := goodZ126 N _ (gZ13 N)
theorem gZ76 (N : Nat) : GoodF Pg 97 (FZ76 (sZ76 N)) := goodZ76 N _ _ _ _ (gZ142 N) (gZ44 N) (gZ103 N) (gZ126 N)
theorem gZ64 (N : Nat) : GoodF Pg 53 (FZ64 (sZ64 N)) := goodZ64 N _ (gZ76 N)
theorem gZ3 (N : Nat) : GoodF Pg 15 (FZ3 (sZ3 N)) := goodZ3 N _ _ _ (gZ82 N) (gZ52 N) (gZ64 N)
theorem gZ92 (N : Nat) : GoodF Pg 74 (FZ92 (sZ92 N)) := goodZ92 N _ (gZ80 N)
theorem gZ0 (N : Nat) : GoodF Pg 34 (FZ0 (sZ0 N)) := goodZ0 N _ (gZ92 N)
theorem gZ85 (N : Nat) : GoodF Pg 96 (FZ85 (sZ85 N)) := goodZ85 N _ _ (gZ104 N) (gZ44 N)
theorem gZ111 (N : Nat) : GoodF Pg 51 (FZ111 (sZ111 N)) := goodZ111 N _ (gZ85 N)
theorem gZ32 (N : Nat) : GoodF Pg 16 (FZ32 (sZ32 N)) := goodZ32 N _ (gZ111 N)
theorem gZ122 (N : Nat) : GoodF Pg 101 (FZ122 (sZ122 N)) := goodZ122 N _ (gZ13 N)
theorem gZ75 (N : Nat) : GoodF Pg 57 (FZ75 (sZ75 N)) := goodZ75 N _ _ (gZ122 N) (gZ44 N)
theorem gZ2 (N : Nat) : GoodF Pg 19 (FZ2 (sZ2 N)) := goodZ2 N _ (gZ75 N)
theorem gZ1 (N : Nat) : GoodF Pg 20 (FZ1 (sZ1 N)) := goodZ1 N _ _ _ (gZ6 N) (gZ3 N) (gZ82 N)
theorem tZ46 (N : Nat) (x_0 x_1 x_2 x_3 u_0 u_1 u_2 : Int) (hG : sZ46 N x_0 x_1 x_2 x_3 u_0 u_1 u_2 (fun b => b) = true) : OkC Pg 6 (shFZ46.args [.int x_0, .int x_1, .int x_2, .int x_3, .int u_0, .int u_1, .int u_2]) [] (.bool true) [] :=
 topZ46 N _ _ _ _ _ _ _ _ _ _ _ _ _ _ _ _ _ _ (gZ19 N) (gZ15 N) (gZ20 N) (gZ54 N) (gZ58 N) (gZ77 N) (gZ68 N) (gZ48 N) (gZ23 N) (gZ57 N) (gZ69 N) (gZ59 N) (gZ6 N) (gZ3 N) (gZ0 N) (gZ32 N) (gZ2 N) (gZ1 N) x_0 x_1 x_2 x_3 u_0 u_1 u_2 hG
end Go.Proofs.YtnfgnjciliapaaaGreatDoor
end
