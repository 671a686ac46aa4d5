/-
  The program's functions without a body, and those that look at bits, tied to their meanings.
  Conditions: none.
-/
import Derived.Test.YtccocdgimamdhaaGreatDoorGs
import Derived.Test.YtccocdgimamdhaaGreatDoorMachP
import Derived.Test.YtccocdgimamdhaaGreatDoorQ1
import Derived.Test.YtccocdgimamdhaaGreatDoorGt0
import Derived.Test.YtccocdgimamdhaaGreatDoorGt1
import Derived.Test.YtccocdgimamdhaaGreatDoorGt2
import Derived.Test.YtccocdgimamdhaaGreatDoorGt3
import Derived.Test.YtccocdgimamdhaaGreatDoorGt4
import Derived.Test.YtccocdgimamdhaaGreatDoorGt5
import Derived.Test.YtccocdgimamdhaaGreatDoorGt6
section
namespace Go.Proofs.YtccocdgimamdhaaGreatDoor
open Go Go.Mach Go.Proofs
set_option maxRecDepth 20000

theorem gj176 (N : Nat) : GoodF Pg 88 (Fj176 (sj176 N)) :=
  good_mono (good_bits_fb (fn := Tryz.f88) (by kernel_rfl) (by kernel_rfl) (by kernel_rfl) (by kernel_rfl) (by kernel_rfl)) fun a k h => by
    unfold spj176 at h; split at h
    · exact h
    · cases h
theorem gj106 (N : Nat) : GoodF Pg 88 (Fj106 (sj106 N)) :=
  good_mono (good_bits (fn := Tryz.f88) (by kernel_rfl) (by kernel_rfl) (by kernel_rfl) (by kernel_rfl) (by kernel_rfl)) fun a k h => by
    unfold spj106 sj106 at h; split at h
    · split at h
      · exact h
      · cases h
    · cases h
theorem gj97 (N : Nat) : GoodF Pg 100 (Fj97 (sj97 N)) :=
  good_mono (good_frombits (fn := Tryz.f100) (by kernel_rfl) (by kernel_rfl) (by kernel_rfl) (by kernel_rfl) (by kernel_rfl)) fun a k h => by
    unfold spj97 at h; split at h
    · exact h
    · cases h
theorem gj205 (N : Nat) : GoodF Pg 122 (Fj205 (sj205 N)) :=
  good_mono (good_sqrt (fn := Tryz.f122) (by kernel_rfl) (by kernel_rfl) (by kernel_rfl) (by kernel_rfl) (by kernel_rfl) sqrt_nan) fun a k h => by
    unfold spj205 at h; split at h
    · exact h
    · cases h
theorem gj79 (N : Nat) : GoodF Pg 221 (Fj79 (sj79 N)) :=
  good_mono (good_add64 (fn := Tryz.f221) (by kernel_rfl) (by kernel_rfl) (by kernel_rfl) (by kernel_rfl) (by kernel_rfl)) fun a k h => by
    unfold spj79 at h; split at h
    · exact h
    · cases h
theorem gj109 (N : Nat) : GoodF Pg 230 (Fj109 (sj109 N)) :=
  good_mono (good_sub64 (fn := Tryz.f230) (by kernel_rfl) (by kernel_rfl) (by kernel_rfl) (by kernel_rfl) (by kernel_rfl)) fun a k h => by
    unfold spj109 at h; split at h
    · exact h
    · cases h
theorem xj159 (N : Nat) (h : GoodF Pg 157 (Fj182 (sj182 N))) : GoodF Pg 157 (Fj159 (sj159 N)) := by
  have q : ∀ b, clsF (cn (some b)) = clsF (some b) := by
    intro b; by_cases hb : isNaN b = true <;> simp [cn, clsF, cls, hb]
  refine good_lift1 (spj159 (sj159 N)) (fun x => .int .i64 (clsF x)) h rfl (fun a k hk => ?_) (fun b k => ?_) (fun b => by rw [q])
  · unfold spj159 at hk; split at hk
    · exact ⟨_, rfl, hk⟩
    · cases hk
  · have e : Fj182 (sj182 N) [.val (.float .f64 b)] [] k = sj182 N b (fun r0 => k (.int .i64 r0) []) := by kernel_rfl
    rw [e, law_Class, q]; rfl
theorem x_m_Abs (N : Nat) (h : GoodF Pg 69 (Fj198 (sj198 N))) : GoodF Pg 69 (F_m_Abs (s_m_Abs N)) := by
  have q : ∀ b, absF (cn (some b)) = absF (some b) := by
    intro b
    by_cases hb : isNaN b = true
    · have hb' := (isNaN_iff b).1 hb
      have : isNaN (b % 9223372036854775808) = true := (isNaN_iff _).2 (by omega)
      simp [cn, absF, canon, hb, this]
    · simp [cn, hb]
  refine good_lift1 (sp_m_Abs (s_m_Abs N)) (fun x => .flt (absF x)) h rfl (fun a k hk => ?_) (fun b k => ?_) (fun b => by rw [q])
  · unfold sp_m_Abs at hk; split at hk
    · exact ⟨_, rfl, hk⟩
    · cases hk
  · have e : Fj198 (sj198 N) [.val (.float .f64 b)] [] k = sj198 N b (fun r0 => k (.flt r0) []) := by kernel_rfl
    rw [e, law_Abs, q]

end Go.Proofs.YtccocdgimamdhaaGreatDoor
end
section
namespace Go.Proofs.YtccocdgimamdhaaGreatDoor
open Go Go.Mach Go.Proofs
set_option linter.unusedVariables false

theorem g_an_of (N : Nat) : GoodF Pg 190 (F_an_of (s_an_of N)) := good_an_of N
theorem gj177 (N : Nat) : GoodF Pg 229 (Fj177 (sj177 N)) := goodj177 N
theorem gj102 (N : Nat) : GoodF Pg 234 (Fj102 (sj102 N)) := goodj102 N
theorem gj101 (N : Nat) : GoodF Pg 232 (Fj101 (sj101 N)) := goodj101 N _ _ (gj177 N) (gj102 N)
theorem gj81 (N : Nat) : GoodF Pg 217 (Fj81 (sj81 N)) := goodj81 N
theorem gj192 (N : Nat) : GoodF Pg 233 (Fj192 (sj192 N)) := goodj192 N _ _ (gj102 N) (gj81 N)
theorem gj83 (N : Nat) : GoodF Pg 228 (Fj83 (sj83 N)) := goodj83 N _ _ (gj101 N) (gj192 N)
theorem gj30 (N : Nat) : GoodF Pg 214 (Fj30 (sj30 N)) := goodj30 N _ _ _ (gj83 N) (gj177 N) (gj81 N)
theorem gj29 (N : Nat) : GoodF Pg 189 (Fj29 (sj29 N)) := goodj29 N _ (gj30 N)
theorem gj182 (N : Nat) : GoodF Pg 157 (Fj182 (sj182 N)) := goodj182 N _ _ _ (gj176 N) (g_an_of N) (gj29 N)
theorem gj198 (N : Nat) : GoodF Pg 69 (Fj198 (sj198 N)) := goodj198 N _ _ (gj176 N) (gj97 N)
theorem gj92 (N : Nat) : GoodF Pg 39 (Fj92 (sj92 N)) := goodj92 N _ (gj97 N)
theorem gj50 (N : Nat) : GoodF Pg 17 (Fj50 (sj50 N)) := goodj50 N _ (gj92 N)
theorem gj35 (N : Nat) : GoodF Pg 86 (Fj35 (sj35 N)) := goodj35 N
theorem gj15 (N : Nat) : GoodF Pg 56 (Fj15 (sj15 N)) := goodj15 N _ (gj35 N)
theorem gj60 (N : Nat) : GoodF Pg 68 (Fj60 (sj60 N)) := goodj60 N
theorem g_m_Abs (N : Nat) : GoodF Pg 69 (F_m_Abs (s_m_Abs N)) := x_m_Abs N (gj198 N)
theorem gj138 (N : Nat) : GoodF Pg 148 (Fj138 (sj138 N)) := goodj138 N _ (g_m_Abs N)
theorem gj146 (N : Nat) : GoodF Pg 149 (Fj146 (sj146 N)) := goodj146 N
theorem gj76 (N : Nat) : GoodF Pg 150 (Fj76 (sj76 N)) := goodj76 N _ (g_m_Abs N)
theorem gj194 (N : Nat) : GoodF Pg 119 (Fj194 (sj194 N)) := goodj194 N _ _ _ _ _ (gj138 N) (gj146 N) (gj76 N) (gj106 N) (gj97 N)
theorem gj136 (N : Nat) : GoodF Pg 70 (Fj136 (sj136 N)) := goodj136 N _ (gj194 N)
theorem gj116 (N : Nat) : GoodF Pg 151 (Fj116 (sj116 N)) := goodj116 N _ _ (gj106 N) (gj97 N)
theorem g_m_Inf (N : Nat) : GoodF Pg 152 (F_m_Inf (s_m_Inf N)) := good_m_Inf N _ (gj97 N)
theorem gj188 (N : Nat) : GoodF Pg 121 (Fj188 (sj188 N)) := goodj188 N _ _ _ _ _ _ _ (gj138 N) (gj146 N) (gj76 N) (gj106 N) (gj116 N) (g_m_Inf N) (gj97 N)
theorem gj187 (N : Nat) : GoodF Pg 71 (Fj187 (sj187 N)) := goodj187 N _ (gj188 N)
theorem gj190 (N : Nat) : GoodF Pg 72 (Fj190 (sj190 N)) := goodj190 N _ (gj205 N)
theorem gj164 (N : Nat) : GoodF Pg 73 (Fj164 (sj164 N)) := goodj164 N
theorem gj89 (N : Nat) : GoodF Pg 18 (Fj89 (sj89 N)) := goodj89 N _ _ _ _ _ _ _ (gj15 N) (gj60 N) (g_m_Abs N) (gj136 N) (gj187 N) (gj190 N) (gj164 N)
theorem gj117 (N : Nat) : GoodF Pg 60 (Fj117 (sj117 N)) := goodj117 N
theorem gj144 (N : Nat) : GoodF Pg 89 (Fj144 (sj144 N)) := goodj144 N _ (gj106 N)
theorem gj105 (N : Nat) : GoodF Pg 115 (Fj105 (sj105 N)) := goodj105 N _ (gj144 N)
theorem gj127 (N : Nat) : GoodF Pg 176 (Fj127 (sj127 N)) := goodj127 N
theorem gj166 (N : Nat) : GoodF Pg 138 (Fj166 (sj166 N)) := goodj166 N _ _ (gj105 N) (gj127 N)
theorem gj87 (N : Nat) : GoodF Pg 87 (Fj87 (sj87 N)) := goodj87 N _ (gj166 N)
theorem gj107 (N : Nat) : GoodF Pg 101 (Fj107 (sj107 N)) := goodj107 N _ (gj87 N)
theorem gj44 (N : Nat) : GoodF Pg 75 (Fj44 (sj44 N)) := goodj44 N _ _ (gj117 N) (gj107 N)
theorem gj64 (N : Nat) : GoodF Pg 74 (Fj64 (sj64 N)) := goodj64 N
theorem gj155 (N : Nat) : GoodF Pg 76 (Fj155 (sj155 N)) := goodj155 N _ _ (g_m_Abs N) (gj136 N)
theorem gj120 (N : Nat) : GoodF Pg 153 (Fj120 (sj120 N)) := goodj120 N
theorem gj100 (N : Nat) : GoodF Pg 154 (Fj100 (sj100 N)) := goodj100 N
theorem gj10 (N : Nat) : GoodF Pg 147 (Fj10 (sj10 N)) := goodj10 N
theorem gj104 (N : Nat) : GoodF Pg 117 (Fj104 (sj104 N)) := goodj104 N _ (gj10 N)
theorem gj173 (N : Nat) : GoodF Pg 147 (Fj173 (sj173 N)) := goodj173 N
theorem gj43 (N : Nat) : GoodF Pg 113 (Fj43 (sj43 N)) := goodj43 N _ (gj173 N)
theorem gj54 (N : Nat) : GoodF Pg 66 (Fj54 (sj54 N)) := goodj54 N _ _ (gj104 N) (gj43 N)
theorem gj72 (N : Nat) : GoodF Pg 113 (Fj72 (sj72 N)) := goodj72 N _ (gj173 N)
theorem gj85 (N : Nat) : GoodF Pg 66 (Fj85 (sj85 N)) := goodj85 N _ _ (gj104 N) (gj72 N)
theorem gj156 (N : Nat) : GoodF Pg 155 (Fj156 (sj156 N)) := goodj156 N _ _ (gj54 N) (gj85 N)
theorem gj179 (N : Nat) : GoodF Pg 184 (Fj179 (sj179 N)) := goodj179 N
theorem gj167 (N : Nat) : GoodF Pg 156 (Fj167 (sj167 N)) := goodj167 N _ (gj179 N)
theorem gj74 (N : Nat) : GoodF Pg 206 (Fj74 (sj74 N)) := goodj74 N
theorem gj103 (N : Nat) : GoodF Pg 185 (Fj103 (sj103 N)) := goodj103 N _ (gj74 N)
theorem gj38 (N : Nat) : GoodF Pg 63 (Fj38 (sj38 N)) := goodj38 N
theorem gj169 (N : Nat) : GoodF Pg 186 (Fj169 (sj169 N)) := goodj169 N _ (gj38 N)
theorem gj174 (N : Nat) : GoodF Pg 187 (Fj174 (sj174 N)) := goodj174 N _ (gj74 N)
theorem gj122 (N : Nat) : GoodF Pg 222 (Fj122 (sj122 N)) := goodj122 N
theorem gj5 (N : Nat) : GoodF Pg 207 (Fj5 (sj5 N)) := goodj5 N _ (gj122 N)
theorem gj63 (N : Nat) : GoodF Pg 113 (Fj63 (sj63 N)) := goodj63 N _ (gj10 N)
theorem gj9 (N : Nat) : GoodF Pg 208 (Fj9 (sj9 N)) := goodj9 N _ (gj63 N)
theorem gj137 (N : Nat) : GoodF Pg 183 (Fj137 (sj137 N)) := goodj137 N _ (gj10 N)
theorem gj14 (N : Nat) : GoodF Pg 146 (Fj14 (sj14 N)) := goodj14 N _ _ (gj137 N) (gj72 N)
theorem gj126 (N : Nat) : GoodF Pg 226 (Fj126 (sj126 N)) := goodj126 N _ (gj10 N)
theorem gj36 (N : Nat) : GoodF Pg 182 (Fj36 (sj36 N)) := goodj36 N _ (gj10 N)
theorem gj99 (N : Nat) : GoodF Pg 180 (Fj99 (sj99 N)) := goodj99 N _ (gj10 N)
theorem gj115 (N : Nat) : GoodF Pg 211 (Fj115 (sj115 N)) := goodj115 N _ _ _ _ (gj126 N) (gj43 N) (gj36 N) (gj99 N)
theorem gj78 (N : Nat) : GoodF Pg 146 (Fj78 (sj78 N)) := goodj78 N _ _ (gj137 N) (gj43 N)
theorem gj75 (N : Nat) : GoodF Pg 181 (Fj75 (sj75 N)) := goodj75 N
theorem gj57 (N : Nat) : GoodF Pg 145 (Fj57 (sj57 N)) := goodj57 N _ _ _ _ (gj99 N) (gj43 N) (gj75 N) (gj36 N)
theorem gj86 (N : Nat) : GoodF Pg 223 (Fj86 (sj86 N)) := goodj86 N _ (gj57 N)
theorem gj96 (N : Nat) : GoodF Pg 175 (Fj96 (sj96 N)) := goodj96 N _ _ (gj104 N) (gj43 N)
theorem gj13 (N : Nat) : GoodF Pg 137 (Fj13 (sj13 N)) := goodj13 N _ (gj96 N)
theorem gj113 (N : Nat) : GoodF Pg 224 (Fj113 (sj113 N)) := goodj113 N _ (gj75 N)
theorem gj66 (N : Nat) : GoodF Pg 209 (Fj66 (sj66 N)) := goodj66 N _ _ _ _ _ _ (gj115 N) (gj78 N) (gj86 N) (gj38 N) (gj13 N) (gj113 N)
theorem gj131 (N : Nat) : GoodF Pg 225 (Fj131 (sj131 N)) := goodj131 N _ (gj36 N)
theorem gj22 (N : Nat) : GoodF Pg 210 (Fj22 (sj22 N)) := goodj22 N _ (gj131 N)
theorem gj93 (N : Nat) : GoodF Pg 145 (Fj93 (sj93 N)) := goodj93 N _ _ _ _ (gj99 N) (gj72 N) (gj75 N) (gj36 N)
theorem gj2 (N : Nat) : GoodF Pg 111 (Fj2 (sj2 N)) := goodj2 N _ (gj93 N)
theorem gj12 (N : Nat) : GoodF Pg 211 (Fj12 (sj12 N)) := goodj12 N _ _ _ _ (gj126 N) (gj72 N) (gj36 N) (gj99 N)
theorem gj65 (N : Nat) : GoodF Pg 212 (Fj65 (sj65 N)) := goodj65 N _ (gj103 N)
theorem gj7 (N : Nat) : GoodF Pg 213 (Fj7 (sj7 N)) := goodj7 N
theorem gj143 (N : Nat) : GoodF Pg 188 (Fj143 (sj143 N)) := goodj143 N _ _ _ _ _ _ _ _ _ _ _ (gj5 N) (gj9 N) (gj14 N) (gj66 N) (gj22 N) (gj13 N) (gj2 N) (gj12 N) (gj65 N) (gj7 N) (gj74 N)
theorem gj110 (N : Nat) : GoodF Pg 156 (Fj110 (sj110 N)) := goodj110 N _ _ _ _ _ (gj179 N) (gj103 N) (gj169 N) (gj174 N) (gj143 N)
theorem gj149 (N : Nat) : GoodF Pg 123 (Fj149 (sj149 N)) := goodj149 N _ _ _ _ _ (gj120 N) (gj100 N) (gj156 N) (gj167 N) (gj110 N)
theorem gj151 (N : Nat) : GoodF Pg 77 (Fj151 (sj151 N)) := goodj151 N _ _ _ (gj106 N) (gj149 N) (gj97 N)
theorem gj197 (N : Nat) : GoodF Pg 78 (Fj197 (sj197 N)) := goodj197 N
theorem gj129 (N : Nat) : GoodF Pg 19 (Fj129 (sj129 N)) := goodj129 N _ _ _ _ _ _ _ (gj44 N) (gj64 N) (gj117 N) (gj155 N) (gj151 N) (gj190 N) (gj197 N)
theorem gj28 (N : Nat) : GoodF Pg 29 (Fj28 (sj28 N)) := goodj28 N _ _ (gj106 N) (gj144 N)
theorem gj52 (N : Nat) : GoodF Pg 20 (Fj52 (sj52 N)) := goodj52 N _ (gj28 N)
theorem gj159 (N : Nat) : GoodF Pg 157 (Fj159 (sj159 N)) := xj159 N (gj182 N)
theorem gj121 (N : Nat) : GoodF Pg 124 (Fj121 (sj121 N)) := goodj121 N _ (gj159 N)
theorem gj6 (N : Nat) : GoodF Pg 218 (Fj6 (sj6 N)) := goodj6 N
theorem gj77 (N : Nat) : GoodF Pg 192 (Fj77 (sj77 N)) := goodj77 N _ _ _ _ (gj30 N) (gj29 N) (gj81 N) (gj6 N)
theorem gj181 (N : Nat) : GoodF Pg 160 (Fj181 (sj181 N)) := goodj181 N _ _ _ (gj106 N) (g_an_of N) (gj77 N)
theorem gj1 (N : Nat) : GoodF Pg 202 (Fj1 (sj1 N)) := goodj1 N
theorem gj142 (N : Nat) : GoodF Pg 193 (Fj142 (sj142 N)) := goodj142 N _ (gj1 N)
theorem gj0 (N : Nat) : GoodF Pg 170 (Fj0 (sj0 N)) := goodj0 N
theorem gj56 (N : Nat) : GoodF Pg 161 (Fj56 (sj56 N)) := goodj56 N _ _ (gj142 N) (gj0 N)
theorem gj82 (N : Nat) : GoodF Pg 171 (Fj82 (sj82 N)) := goodj82 N
theorem gj33 (N : Nat) : GoodF Pg 170 (Fj33 (sj33 N)) := goodj33 N
theorem gj26 (N : Nat) : GoodF Pg 131 (Fj26 (sj26 N)) := goodj26 N _ _ (gj82 N) (gj33 N)
theorem gj175 (N : Nat) : GoodF Pg 126 (Fj175 (sj175 N)) := goodj175 N _ _ _ (gj181 N) (gj56 N) (gj26 N)
theorem gj123 (N : Nat) : GoodF Pg 231 (Fj123 (sj123 N)) := goodj123 N
theorem gj118 (N : Nat) : GoodF Pg 219 (Fj118 (sj118 N)) := goodj118 N _ _ (gj123 N) (gj79 N)
theorem gj152 (N : Nat) : GoodF Pg 194 (Fj152 (sj152 N)) := goodj152 N _ _ (gj118 N) (gj1 N)
theorem gj58 (N : Nat) : GoodF Pg 162 (Fj58 (sj58 N)) := goodj58 N _ _ (gj152 N) (gj0 N)
theorem gj18 (N : Nat) : GoodF Pg 127 (Fj18 (sj18 N)) := goodj18 N _ (gj58 N)
theorem gj88 (N : Nat) : GoodF Pg 134 (Fj88 (sj88 N)) := goodj88 N
theorem gj3 (N : Nat) : GoodF Pg 134 (Fj3 (sj3 N)) := goodj3 N
theorem gj119 (N : Nat) : GoodF Pg 204 (Fj119 (sj119 N)) := goodj119 N _ (gj1 N)
theorem gj73 (N : Nat) : GoodF Pg 172 (Fj73 (sj73 N)) := goodj73 N _ _ (gj119 N) (gj0 N)
theorem gj34 (N : Nat) : GoodF Pg 159 (Fj34 (sj34 N)) := goodj34 N _ (gj73 N)
theorem gj19 (N : Nat) : GoodF Pg 205 (Fj19 (sj19 N)) := goodj19 N
theorem gj172 (N : Nat) : GoodF Pg 201 (Fj172 (sj172 N)) := goodj172 N _ _ _ (gj19 N) (gj79 N) (gj1 N)
theorem gj130 (N : Nat) : GoodF Pg 215 (Fj130 (sj130 N)) := goodj130 N
theorem gj178 (N : Nat) : GoodF Pg 216 (Fj178 (sj178 N)) := goodj178 N _ _ _ (gj19 N) (gj109 N) (gj1 N)
theorem gj68 (N : Nat) : GoodF Pg 191 (Fj68 (sj68 N)) := goodj68 N _ _ _ _ (gj172 N) (gj0 N) (gj130 N) (gj178 N)
theorem gj27 (N : Nat) : GoodF Pg 158 (Fj27 (sj27 N)) := goodj27 N _ (gj68 N)
theorem gj20 (N : Nat) : GoodF Pg 125 (Fj20 (sj20 N)) := goodj20 N _ _ _ _ (gj88 N) (gj3 N) (gj34 N) (gj27 N)
theorem gj4 (N : Nat) : GoodF Pg 125 (Fj4 (sj4 N)) := goodj4 N _ _ _ (gj3 N) (gj34 N) (gj27 N)
theorem gj37 (N : Nat) : GoodF Pg 195 (Fj37 (sj37 N)) := goodj37 N _ _ (gj82 N) (gj0 N)
theorem gj59 (N : Nat) : GoodF Pg 196 (Fj59 (sj59 N)) := goodj59 N _ (gj19 N)
theorem gj11 (N : Nat) : GoodF Pg 197 (Fj11 (sj11 N)) := goodj11 N _ (gj6 N)
theorem gj148 (N : Nat) : GoodF Pg 200 (Fj148 (sj148 N)) := goodj148 N _ _ (gj19 N) (gj1 N)
theorem gj17 (N : Nat) : GoodF Pg 167 (Fj17 (sj17 N)) := goodj17 N _ _ _ (gj148 N) (gj172 N) (gj33 N)
theorem gj21 (N : Nat) : GoodF Pg 163 (Fj21 (sj21 N)) := goodj21 N _ _ _ _ _ (gj37 N) (gj3 N) (gj59 N) (gj11 N) (gj17 N)
theorem gj108 (N : Nat) : GoodF Pg 220 (Fj108 (sj108 N)) := goodj108 N
theorem gj150 (N : Nat) : GoodF Pg 198 (Fj150 (sj150 N)) := goodj150 N _ (gj108 N)
theorem gj40 (N : Nat) : GoodF Pg 164 (Fj40 (sj40 N)) := goodj40 N _ (gj150 N)
theorem gj62 (N : Nat) : GoodF Pg 199 (Fj62 (sj62 N)) := goodj62 N _ _ (gj142 N) (gj0 N)
theorem gj67 (N : Nat) : GoodF Pg 165 (Fj67 (sj67 N)) := goodj67 N _ (gj62 N)
theorem gj39 (N : Nat) : GoodF Pg 166 (Fj39 (sj39 N)) := goodj39 N _ _ (gj82 N) (gj0 N)
theorem gj46 (N : Nat) : GoodF Pg 170 (Fj46 (sj46 N)) := goodj46 N
theorem gj25 (N : Nat) : GoodF Pg 168 (Fj25 (sj25 N)) := goodj25 N _ _ (gj1 N) (gj46 N)
theorem gj193 (N : Nat) : GoodF Pg 203 (Fj193 (sj193 N)) := goodj193 N _ (gj19 N)
theorem gj41 (N : Nat) : GoodF Pg 169 (Fj41 (sj41 N)) := goodj41 N _ (gj193 N)
theorem gj16 (N : Nat) : GoodF Pg 128 (Fj16 (sj16 N)) := goodj16 N _ _ _ _ _ _ _ _ (gj21 N) (gj3 N) (gj40 N) (gj67 N) (gj39 N) (gj25 N) (gj41 N) (gj17 N)
theorem gj94 (N : Nat) : GoodF Pg 79 (Fj94 (sj94 N)) := goodj94 N _ _ _ _ _ _ (gj121 N) (gj175 N) (gj18 N) (gj20 N) (gj4 N) (gj16 N)
theorem gj141 (N : Nat) : GoodF Pg 132 (Fj141 (sj141 N)) := goodj141 N
theorem gj48 (N : Nat) : GoodF Pg 172 (Fj48 (sj48 N)) := goodj48 N _ _ (gj119 N) (gj0 N)
theorem gj47 (N : Nat) : GoodF Pg 170 (Fj47 (sj47 N)) := goodj47 N
theorem gj31 (N : Nat) : GoodF Pg 173 (Fj31 (sj31 N)) := goodj31 N _ _ _ (gj19 N) (gj1 N) (gj47 N)
theorem gj49 (N : Nat) : GoodF Pg 172 (Fj49 (sj49 N)) := goodj49 N _ _ (gj119 N) (gj33 N)
theorem gj125 (N : Nat) : GoodF Pg 133 (Fj125 (sj125 N)) := goodj125 N _ _ _ _ _ (gj48 N) (gj67 N) (gj31 N) (gj49 N) (gj26 N)
theorem gj45 (N : Nat) : GoodF Pg 131 (Fj45 (sj45 N)) := goodj45 N _ _ (gj82 N) (gj0 N)
theorem gj80 (N : Nat) : GoodF Pg 130 (Fj80 (sj80 N)) := goodj80 N _ _ (gj45 N) (gj4 N)
theorem gj132 (N : Nat) : GoodF Pg 129 (Fj132 (sj132 N)) := goodj132 N _ _ _ _ (gj141 N) (gj125 N) (gj80 N) (gj16 N)
theorem gj95 (N : Nat) : GoodF Pg 80 (Fj95 (sj95 N)) := goodj95 N _ (gj132 N)
theorem gj42 (N : Nat) : GoodF Pg 81 (Fj42 (sj42 N)) := goodj42 N _ _ _ _ _ (gj141 N) (gj125 N) (gj45 N) (gj4 N) (gj3 N)
theorem gj98 (N : Nat) : GoodF Pg 21 (Fj98 (sj98 N)) := goodj98 N _ _ _ _ _ (gj15 N) (gj60 N) (gj94 N) (gj95 N) (gj42 N)
theorem gj145 (N : Nat) : GoodF Pg 110 (Fj145 (sj145 N)) := goodj145 N
theorem gj163 (N : Nat) : GoodF Pg 116 (Fj163 (sj163 N)) := goodj163 N
theorem gj154 (N : Nat) : GoodF Pg 65 (Fj154 (sj154 N)) := goodj154 N _ _ (gj105 N) (gj163 N)
theorem gj128 (N : Nat) : GoodF Pg 113 (Fj128 (sj128 N)) := goodj128 N _ (gj10 N)
theorem gj124 (N : Nat) : GoodF Pg 67 (Fj124 (sj124 N)) := goodj124 N _ (gj128 N)
theorem gj189 (N : Nat) : GoodF Pg 15 (Fj189 (sj189 N)) := goodj189 N _ _ _ (gj154 N) (gj54 N) (gj124 N)
theorem gj153 (N : Nat) : GoodF Pg 114 (Fj153 (sj153 N)) := goodj153 N _ (gj10 N)
theorem gj84 (N : Nat) : GoodF Pg 64 (Fj84 (sj84 N)) := goodj84 N _ _ (gj153 N) (gj43 N)
theorem gj24 (N : Nat) : GoodF Pg 13 (Fj24 (sj24 N)) := goodj24 N _ (gj84 N)
theorem gj135 (N : Nat) : GoodF Pg 63 (Fj135 (sj135 N)) := goodj135 N
theorem gj32 (N : Nat) : GoodF Pg 112 (Fj32 (sj32 N)) := goodj32 N _ (gj78 N)
theorem gj51 (N : Nat) : GoodF Pg 111 (Fj51 (sj51 N)) := goodj51 N _ (gj57 N)
theorem gj23 (N : Nat) : GoodF Pg 61 (Fj23 (sj23 N)) := goodj23 N _ _ _ _ (gj135 N) (gj38 N) (gj32 N) (gj51 N)
theorem gj8 (N : Nat) : GoodF Pg 61 (Fj8 (sj8 N)) := goodj8 N _ _ _ (gj38 N) (gj32 N) (gj51 N)
theorem gj191 (N : Nat) : GoodF Pg 59 (Fj191 (sj191 N)) := goodj191 N _ _ _ _ _ (gj145 N) (gj189 N) (gj24 N) (gj23 N) (gj8 N)
theorem gj171 (N : Nat) : GoodF Pg 135 (Fj171 (sj171 N)) := goodj171 N _ (gj13 N)
theorem gj112 (N : Nat) : GoodF Pg 174 (Fj112 (sj112 N)) := goodj112 N _ (gj63 N)
theorem gj61 (N : Nat) : GoodF Pg 136 (Fj61 (sj61 N)) := goodj61 N _ (gj112 N)
theorem gj133 (N : Nat) : GoodF Pg 82 (Fj133 (sj133 N)) := goodj133 N _ _ _ _ _ (gj117 N) (gj191 N) (gj171 N) (gj8 N) (gj61 N)
theorem gj170 (N : Nat) : GoodF Pg 83 (Fj170 (sj170 N)) := goodj170 N _ (gj13 N)
theorem gj114 (N : Nat) : GoodF Pg 67 (Fj114 (sj114 N)) := goodj114 N _ (gj63 N)
theorem gj70 (N : Nat) : GoodF Pg 62 (Fj70 (sj70 N)) := goodj70 N _ (gj114 N)
theorem gj53 (N : Nat) : GoodF Pg 12 (Fj53 (sj53 N)) := goodj53 N _ _ _ (gj70 N) (gj8 N) (gj38 N)
theorem gj158 (N : Nat) : GoodF Pg 22 (Fj158 (sj158 N)) := goodj158 N _ _ _ _ (gj44 N) (gj133 N) (gj170 N) (gj53 N)
theorem gj147 (N : Nat) : GoodF Pg 104 (Fj147 (sj147 N)) := goodj147 N
theorem gj184 (N : Nat) : GoodF Pg 105 (Fj184 (sj184 N)) := goodj184 N _ (gj35 N)
theorem gj168 (N : Nat) : GoodF Pg 44 (Fj168 (sj168 N)) := goodj168 N _ _ _ _ (gj15 N) (gj35 N) (gj147 N) (gj184 N)
theorem gj90 (N : Nat) : GoodF Pg 56 (Fj90 (sj90 N)) := goodj90 N _ (gj35 N)
theorem gj183 (N : Nat) : GoodF Pg 58 (Fj183 (sj183 N)) := goodj183 N
theorem gj165 (N : Nat) : GoodF Pg 57 (Fj165 (sj165 N)) := goodj165 N _ (gj15 N)
theorem gj111 (N : Nat) : GoodF Pg 10 (Fj111 (sj111 N)) := goodj111 N _ _ _ (gj90 N) (gj183 N) (gj165 N)
theorem gj91 (N : Nat) : GoodF Pg 55 (Fj91 (sj91 N)) := goodj91 N
theorem gj55 (N : Nat) : GoodF Pg 8 (Fj55 (sj55 N)) := goodj55 N _ _ _ _ _ (gj89 N) (gj168 N) (gj111 N) (gj98 N) (gj91 N)
theorem gj139 (N : Nat) : GoodF Pg 14 (Fj139 (sj139 N)) := goodj139 N _ (gj15 N)
theorem gj161 (N : Nat) : GoodF Pg 23 (Fj161 (sj161 N)) := goodj161 N _ _ (gj44 N) (gj64 N)
theorem gj71 (N : Nat) : GoodF Pg 74 (Fj71 (sj71 N)) := goodj71 N
theorem gj134 (N : Nat) : GoodF Pg 85 (Fj134 (sj134 N)) := goodj134 N
theorem gj185 (N : Nat) : GoodF Pg 84 (Fj185 (sj185 N)) := goodj185 N _ (gj44 N)
theorem gj157 (N : Nat) : GoodF Pg 24 (Fj157 (sj157 N)) := goodj157 N _ _ _ _ (gj44 N) (gj71 N) (gj134 N) (gj185 N)
theorem gj140 (N : Nat) : GoodF Pg 25 (Fj140 (sj140 N)) := goodj140 N _ _ (gj111 N) (gj89 N)
theorem gj162 (N : Nat) : GoodF Pg 26 (Fj162 (sj162 N)) := goodj162 N _ _ (gj157 N) (gj129 N)
theorem gj160 (N : Nat) : GoodF Pg 27 (Fj160 (sj160 N)) := goodj160 N _ _ (gj90 N) (gj35 N)
theorem gj186 (N : Nat) : GoodF Pg 28 (Fj186 (sj186 N)) := goodj186 N _ _ _ (gj44 N) (gj71 N) (gj87 N)
theorem tj69 (N : Nat) (x_0 x_1 x_2 x_3 y_0 y_1 y_2 y_3 : Int) (hG : sj69 N x_0 x_1 x_2 x_3 y_0 y_1 y_2 y_3 (fun b => b) = true) : OkC Pg 4 (shFj69.args [.int x_0, .int x_1, .int x_2, .int x_3, .int y_0, .int y_1, .int y_2, .int y_3]) [] (.bool true) [] :=
  topj69 N _ _ _ _ _ _ _ _ _ _ _ _ _ _ _ _ (gj50 N) (gj89 N) (gj129 N) (gj52 N) (gj98 N) (gj158 N) (gj55 N) (gj139 N) (gj161 N) (gj111 N) (gj157 N) (gj140 N) (gj162 N) (gj160 N) (gj186 N) (gj28 N) x_0 x_1 x_2 x_3 y_0 y_1 y_2 y_3 hG
end Go.Proofs.YtccocdgimamdhaaGreatDoor
end
