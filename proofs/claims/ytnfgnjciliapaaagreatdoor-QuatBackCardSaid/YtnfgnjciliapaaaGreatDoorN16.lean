/-
  TO A MATRIX AND BACK: four times a number of the quaternion, times the quaternion; what lies between the two.
  Conditions: numbers of units.
-/
import Derived.Test.YtnfgnjciliapaaaGreatDoorFlG
section
namespace Go.Proofs.YtnfgnjciliapaaaGreatDoor
open Go Go.Mach Ieee
set_option linter.unusedVariables false
theorem quarter {w x y z : Rat} (hN : Bd (Nq w x y z - 1) (1 / 1000)) (hx : x * x <= w * w + 1 / 1000) (hy : y * y <= w * w + 1 / 1000) (hz : z * z <= w * w + 1 / 1000) : 6 / 25 <= w * w := by
 obtain ⟨h1, h2⟩ := hN
 unfold Nq at *
 grind
theorem h_near {W : Fl} {P : Rat} (hW : Ap W P (230 * uu)) (hP : Bd P (405 / 100)) {k : Int} (hk : -2000 <= k) (h1 : 1 / 5 <= pz k) (h5 : pz k <= 5) : Bd (rv (sclF W k) / pz k - P) (235 * uu) := by
 have hz := pz_pos k
 have hWb := (hW.bd hP).mono (B := 41 / 10) (by grind)
 have hzb : Bd (pz k) (pz k) := by unfold Bd; exact ⟨by grind, Rat.le_refl⟩
 have hb := hWb.mul hzb
 have hB := Bg_ge
 have h := scl_near hW.1 hk (hb.mono (by grind)) _ hb
 have he := eta_le
 have he0 := eta_pos
 have hz0 : pz k ≠ 0 := by grind
 have e1 : (rv (sclF W k) / pz k - rv W) * pz k = rv (sclF W k) - rv W * pz k := by grind
 rw [<- e1] at h
 have h2 : Bd (rv (sclF W k) / pz k - rv W) (42 / 10 * uu) := by
  generalize rv (sclF W k) / pz k - rv W = t at *
  generalize pz k = z at *
  obtain ⟨a1, a2⟩ := h
  clear hb hzb hWb hP hW hB e1
  constructor
  ·rcases (Rat.le_total : -(42 / 10 * uu) <= t \/ t <= -(42 / 10 * uu)) with k | k
   ·exact k
   ·by_cases h0 : t = -(42 / 10 * uu)
    ·rw [h0]; exact Rat.le_refl
    ·have := Rat.mul_pos (by grind : 0 < -(42 / 10 * uu) - t) hz
     grind
  ·rcases (Rat.le_total : t <= 42 / 10 * uu \/ 42 / 10 * uu <= t) with k | k
   ·exact k
   ·by_cases h0 : t = 42 / 10 * uu
    ·rw [h0]; exact Rat.le_refl
    ·have := Rat.mul_pos (by grind : 0 < t - 42 / 10 * uu) hz
     grind
 obtain ⟨a1, a2⟩ := h2
 obtain ⟨b1, b2⟩ := hW.2
 generalize rv (sclF W k) / pz k = t at *
 clear h hb hzb hB hWb hW e1
 constructor <;> grind
theorem g_two {G W X Y Z w x y z : Rat} (hN : 38 / 10 <= Nq W X Y Z) (hw : Bd (w - W) (230 * uu)) (hx : Bd (x - X) (230 * uu)) (hy : Bd (y - Y) (230 * uu)) (hz : Bd (z - Z) (230 * uu)) (gw : Bd w G) (gx : Bd x G) (gy : Bd y G) (gz : Bd z G) (h0 : 0 < G) : 9 / 10 <= G := by
 rcases (Rat.le_total : 9 / 10 <= G \/ G <= 9 / 10) with h | h
 ·exact h
 ·exfalso
  have key : ∀ {t T : Rat}, Bd (t - T) (230 * uu) -> Bd t G -> T * T <= 91 / 100 * (91 / 100) := by
   intro t T h1 h2
   have h3 : Bd T (91 / 100) := by
    obtain ⟨a, b⟩ := h1
    obtain ⟨c, d⟩ := h2
    exact ⟨by grind, by grind⟩
   exact h3.sq
  have k0 := key hw gw
  have k1 := key hx gx
  have k2 := key hy gy
  have k3 := key hz gz
  unfold Nq at hN
  grind
theorem z_bd2 {G z : Rat} (h1 : 1 <= G * z) (h2 : G * z <= 2) (hl : 9 / 10 <= G) (hg : G <= 41 / 10) (hz : 0 < z) : 1 / 5 <= z /\ z <= 5 := by
 have a := Rat.mul_nonneg (by grind : 0 <= 41 / 10 - G) (by grind : 0 <= z)
 have b := Rat.mul_nonneg (by grind : 0 <= G - 9 / 10) (by grind : 0 <= z)
 constructor <;> grind
theorem c_small {c N Y : Rat} (h : c * c * N = Y) (hY : Bd (Y - 1) (81 / 10 * uu)) (hN : 3 <= N) : Bd c (6 / 10) := by
 obtain ⟨y, y0, y1, y2⟩ := abs_ex c
 have hk : y <= 6 / 10 := by
  rcases (Rat.le_total : y <= 6 / 10 \/ 6 / 10 <= y) with k | k
  ·exact k
  ·have a := Rat.mul_nonneg (by grind : 0 <= y - 6 / 10) (by grind : 0 <= y + 6 / 10)
   have b := Rat.mul_nonneg (by grind : 0 <= c * c - 36 / 100) (by grind : 0 <= N)
   have := hY.2
   grind
 exact y1.mono hk
theorem apart0 {w x y z Q c hw hx hy hz pw px py pz' : Rat} (bw : Bd w kap) (bx : Bd x kap) (bY : Bd y kap) (bz : Bd z kap) (hc : Bd c (6 / 10))
  (gw : Bd (hw - 4 * Q * w) (235 * uu)) (gx : Bd (hx - 4 * Q * x) (235 * uu)) (gy : Bd (hy - 4 * Q * y) (235 * uu)) (gz : Bd (hz - 4 * Q * z) (235 * uu))
  (dw : Bd (pw - c * hw) (205 / 100 * uu)) (dx : Bd (px - c * hx) (205 / 100 * uu)) (dy : Bd (py - c * hy) (205 / 100 * uu)) (dz : Bd (pz' - c * hz) (205 / 100 * uu)) :
  Bd (w * px + -x * pw + -y * pz' - -z * py) (580 * uu) := by
 have a0 := (bw.mul gx).sub (bx.mul gw)
 have a1 := (bz.mul gy).sub (bY.mul gz)
 have a2 := hc.mul (a0.add a1)
 have b0 := (bw.mul dx).sub (bx.mul dw)
 have b1 := (bz.mul dy).sub (bY.mul dz)
 have e : w * px + -x * pw + -y * pz' - -z * py = c * (w * (hx - 4 * Q * x) - x * (hw - 4 * Q * w) + (z * (hy - 4 * Q * y) - y * (hz - 4 * Q * z))) + (w * (px - c * hx) - x * (pw - c * hw)) + (z * (py - c * hy) - y * (pz' - c * hz)) := by grind
 rw [e]
 have h := (a2.add b0).add b1
 exact h.mono (by grind)
theorem scl_fin {x : Fl} (hx : finF x = true) {k : Int} (h1 : -2000 <= k) (hb : Bd (rv x * pz k) Bg) : finF (sclF x k) = true := by
 obtain ⟨b, s, m, i, rfl, h⟩ := finF_num hx
 have gi := place_ge h
 rw [sclF_num h]
 have hK := K2_eq
 have hS := Sp_eq
 by_cases hm : m = 0
 ·rw [hm, nearest_zero]; exact (rv_word0 s).1
 ·have ex : ((signed s m (i + k + ((Sp + K2 : Nat) : Int)).toNat : Int) : Rat) * Ue (Sp + K2) = rv (some b) * pz k := by
   rw [rv_num h, signed_cast, signed_cast]
   unfold pz
   have e : (i + k + ((Sp + K2 : Nat) : Int)).toNat = (i + 1074).toNat + (k + (K2 : Int)).toNat := by omega
   rw [e, Nat.pow_add, Ue_add, Rat.natCast_mul, Rat.natCast_mul, Rat.natCast_mul, Rat.natCast_pow _ (k + (K2 : Int)).toNat]
   generalize ((2 ^ (i + 1074).toNat : Nat) : Rat) = a
   have e2 : ((2 : Nat) : Rat) ^ (k + (K2 : Int)).toNat = (2 : Rat) ^ (k + (K2 : Int)).toNat := rfl
   rw [e2]
   generalize (2 : Rat) ^ (k + (K2 : Int)).toNat = c
   generalize Ue Sp = u
   generalize Ue K2 = v
   generalize (m : Rat) = n
   cases s
   ·rw [if_neg (by decide), if_neg (by decide)]; grind
   ·rw [if_pos rfl, if_pos rfl]; grind
  have hg := not_great hm (i := i + k) (E := Sp + K2) (by omega) (by rw [ex]; exact hb)
  exact (near_rat s hm (i := i + k) (by omega) (E := Sp + K2) (by omega) (by omega)).1
theorem scl_nought {x : Fl} (hx : finF x = true) (h0 : rv x = 0) (k : Int) : finF (sclF x k) = true /\ rv (sclF x k) = 0 := by
 obtain ⟨b, s, m, i, rfl, h⟩ := finF_num hx
 rw [sclF_num h]
 have hm : m = 0 := by
  rcases Nat.eq_zero_or_pos m with h1 | h1
  ·exact h1
  ·rw [rv_num h] at h0
   exact absurd h0 (sgn_ne s (by omega))
 rw [hm, nearest_zero]
 exact rv_word0 s
theorem pz_inv {a b : Int} (h : a + b = 0) (ha : -2000 <= a) (hb : -2000 <= b) : pz a * pz b = 1 := by
 have hK := K2_eq
 unfold pz
 have e : (a + (K2 : Int)).toNat + (b + (K2 : Int)).toNat = K2 + K2 := by omega
 have h1 := pow_addR (a + (K2 : Int)).toNat (b + (K2 : Int)).toNat
 rw [e, pow_addR] at h1
 have h2 := Ue_mul K2
 generalize (2 : Rat) ^ (a + (K2 : Int)).toNat = p at *
 generalize (2 : Rat) ^ (b + (K2 : Int)).toNat = q at *
 generalize (2 : Rat) ^ K2 = r at *
 generalize Ue K2 = u at *
 have : p * u * (q * u) = (p * q) * (u * u) := by grind
 rw [this, <- h1]
 have e2 : r * r * (u * u) = (r * u) * (r * u) := by grind
 rw [e2, h2, Rat.one_mul]
theorem len3_near {l0 l1 l2 : Fl} (f0 : finF l0 = true) (f1 : finF l1 = true) (f2 : finF l2 = true) (b0 : Bd (rv l0) 3) (b1 : Bd (rv l1) 3) (b2 : Bd (rv l2) 3) :
  finF (fadd (fadd (fadd (some 0) (fmul l0 l0)) (fmul l1 l1)) (fmul l2 l2)) = true /\
  Bd (rv (fadd (fadd (fadd (some 0) (fmul l0 l0)) (fmul l1 l1)) (fmul l2 l2)) - (rv l0 * rv l0 + rv l1 * rv l1 + rv l2 * rv l2)) (5 * uu * (rv l0 * rv l0 + rv l1 * rv l1 + rv l2 * rv l2 + 1 / 10000)) := by
 obtain ⟨g0, h0⟩ := self_near f0 b0
 obtain ⟨g1, h1⟩ := self_near f1 b1
 obtain ⟨g2, h2⟩ := self_near f2 b2
 have q0 := sq_nonneg (rv l0)
 have q1 := sq_nonneg (rv l1)
 have q2 := sq_nonneg (rv l2)
 have r0 := b0.sq
 have r1 := b1.sq
 have r2 := b2.sq
 generalize fmul l0 l0 = P0 at *
 generalize fmul l1 l1 = P1 at *
 generalize fmul l2 l2 = P2 at *
 generalize rv l0 * rv l0 = L0 at *
 generalize rv l1 * rv l1 = L1 at *
 generalize rv l2 * rv l2 = L2 at *
 have hB := Bg_ge
 have z := rv_zero
 have s0 : Bd (rv (some 0) - 0) (1 * uu * (0 + 1 / 10000)) := by rw [z.2]; unfold Bd; grind
 obtain ⟨m0, n0⟩ := add_near z.1 g0 (by rw [z.2]; obtain ⟨a, b⟩ := h0; exact ⟨by grind, by grind⟩)
 have s1 := acc_alg s0 h0 Rat.le_refl q0 (by grind) (by grind) (by grind) (by grind) (by grind) n0
 rw [Rat.zero_add] at s1
 obtain ⟨m1, n1⟩ := add_near m0 g1 (by obtain ⟨a, b⟩ := h1; obtain ⟨c, d⟩ := s1; exact ⟨by grind, by grind⟩)
 have s2 := acc_alg s1 h1 q0 q1 (by grind) (by grind) (by grind) (by grind) (by grind) n1
 obtain ⟨m2, n2⟩ := add_near m1 g2 (by obtain ⟨a, b⟩ := h2; obtain ⟨c, d⟩ := s2; exact ⟨by grind, by grind⟩)
 have s3 := acc_alg s2 h2 (by grind) q2 (by grind) (by grind) (by grind) (by grind) (by grind) n2
 exact ⟨m2, s3.mono (by grind)⟩
theorem root_six {r s S : Rat} (hr : 0 < r) (h : Bd (r * r - s) (3 * uu * s)) (hs : Bd (s - S) (5 * uu * (S + 1 / 10000))) (h0 : 0 <= S) (h1 : S <= 27) : r <= 6 := by
 rcases (Rat.le_total : r <= 6 \/ 6 <= r) with k | k
 ·exact k
 ·have a := Rat.mul_nonneg (by grind : 0 <= r - 6) (by grind : 0 <= r + 6)
  obtain ⟨b1, b2⟩ := h
  obtain ⟨c1, c2⟩ := hs
  grind
end Go.Proofs.YtnfgnjciliapaaaGreatDoor
end
section
namespace Go.Proofs.YtnfgnjciliapaaaGreatDoor
open Go Go.Mach Ieee
set_option linter.unusedVariables false
def tau : Rat := tS * tS / 1000
theorem tau_pos : 0 < tau := by
 have h := tS_pos
 have := Rat.mul_pos h h
 unfold tau; grind
theorem eta_tau : eta * 1000000 <= uu * tau := by
 unfold eta tau tS
 rw [Sp_eq]
 have h1 : Ue (1074 + 1) <= Ue (400 + (400 + (100 + 53))) := Ue_le (by decide)
 have h2 := Ue_mul 100
 have h3 := Ue_mul 53
 have h4 : (2 : Rat) ^ 100 = 1267650600228229401496703205376 := by decide +kernel
 have h5 : (2 : Rat) ^ 53 = 9007199254740992 := by decide +kernel
 rw [Ue_add 400, Ue_add 400 (100 + 53), Ue_add 100 53] at h1
 rw [h4] at h2
 rw [h5] at h3
 have h6 := Ue_pos 400
 have h7 := Rat.mul_pos h6 h6
 generalize Ue (1074 + 1) = e at *
 generalize Ue 400 = t at *
 generalize Ue 100 = x at *
 generalize Ue 53 = y at *
 have hy : y = uu := by grind
 have hx : x = 1 / 1267650600228229401496703205376 := by grind
 have e1 : t * (t * (x * y)) = (t * t) * (x * y) := by grind
 rw [e1] at h1
 generalize t * t = q at *
 rw [hx, hy] at h1
 grind
theorem tS_tG : tS * tG = 1 := by
 unfold tS tG
 have := Ue_mul 400
 rw [Rat.mul_comm]; exact this
def Ra (x : Fl) (a α ε : Rat) : Prop := finF x = true /\ 0 <= α /\ (a = α \/ a = -α) /\ Bd (rv x - a) (ε * α)
theorem amount {a α : Rat} (h : a = α \/ a = -α) (h0 : 0 <= α) : Bd a α := by
 rcases h with h | h <;> (rw [h]; exact ⟨by grind, by grind⟩)
theorem Ra.mono {x : Fl} {a α ε δ : Rat} (h : Ra x a α ε) (g : ε <= δ) : Ra x a α δ := by
 obtain ⟨f, h0, h1, h3⟩ := h
 refine ⟨f, h0, h1, h3.mono ?_⟩
 have := Rat.mul_nonneg (by grind : 0 <= δ - ε) h0
 grind
theorem Ra.bd {x : Fl} {a α ε : Rat} (h : Ra x a α ε) (he : ε <= 1 / 1000) : Bd (rv x) (1001 / 1000 * α) := by
 obtain ⟨f, h0, h1, h3⟩ := h
 have hb := amount h1 h0
 have := Rat.mul_nonneg (by grind : 0 <= 1 / 1000 - ε) h0
 obtain ⟨a1, a2⟩ := h3
 obtain ⟨b1, b2⟩ := hb
 constructor <;> grind
theorem alg40 {ρ α β A B q e : Rat} (hβ : 0 < β) (h1 : Bd (A - α) (e * α)) (h2 : Bd (B - β) (e * β)) (he : 0 <= e) (he2 : e <= 1 / 1000) (hα : 0 <= α) (hρ : ρ * β = α) (hq : q * B = A) : Bd (q - ρ) (201 / 100 * e * ρ) /\ 0 <= q /\ q <= 2 * ρ := by
 obtain ⟨a1, a2⟩ := h1
 obtain ⟨b1, b2⟩ := h2
 have hρ0 : 0 <= ρ := by
  rcases (Rat.le_total : 0 <= ρ \/ ρ <= 0) with k | k
  ·exact k
  ·by_cases h0 : ρ = 0
   ·rw [h0]; exact Rat.le_refl
   ·have := Rat.mul_pos (by grind : 0 < -ρ) hβ
    grind
 subst hρ
 have p1 := Rat.mul_nonneg he (Rat.le_of_lt hβ)
 have p2 := Rat.mul_nonneg (by grind : 0 <= 1 / 1000 - e) (Rat.le_of_lt hβ)
 have hB : 0 < B := by grind
 have p3 := Rat.mul_nonneg he hρ0
 have hpβ := Rat.mul_nonneg p3 (Rat.le_of_lt hβ)
 have p4 := Rat.mul_nonneg (by grind : 0 <= 1 / 1000 - e) hρ0
 have p4β := Rat.mul_nonneg p4 (Rat.le_of_lt hβ)
 have p5 := Rat.mul_nonneg p3 p1
 have p6 := Rat.mul_nonneg p4 p1
 have hlow : ∀ t : Rat, 0 <= t * B -> 0 <= t := by
  intro t ht
  rcases (Rat.le_total : 0 <= t \/ t <= 0) with k | k
  ·exact k
  ·by_cases h0 : t = 0
   ·rw [h0]; exact Rat.le_refl
   ·have := Rat.mul_pos (by grind : 0 < -t) hB
    grind
 have r1 := Rat.mul_nonneg hρ0 (by grind : 0 <= B - (β - e * β))
 have r2 := Rat.mul_nonneg hρ0 (by grind : 0 <= (β + e * β) - B)
 have s1 := Rat.mul_nonneg p3 (by grind : 0 <= B - (β - e * β))
 have k1 : 0 <= q - ρ + 201 / 100 * e * ρ := hlow _ (by grind)
 have k2 : 0 <= 201 / 100 * e * ρ - (q - ρ) := hlow _ (by grind)
 refine ⟨⟨by grind, by grind⟩, ?_, ?_⟩ <;> grind
theorem fin_alg {w q ρ t e1 : Rat} (h1 : Bd (w - q) (2 * uu * (101 / 100 * ρ) + t)) (h2 : Bd (q - ρ) e1) (ht : t * 1000000 <= uu * ρ) (hρ : 0 <= ρ) : Bd (w - ρ) (e1 + 203 / 100 * uu * ρ) := by
 obtain ⟨a1, a2⟩ := h1
 obtain ⟨b1, b2⟩ := h2
 constructor <;> grind
theorem Ra.div {x y : Fl} {a α b e : Rat} (hx : Ra x a α e) (fy : finF y = true) (hb : 0 < b) (hy : Bd (rv y - b) (e * b)) (he : 0 <= e) (he2 : e <= 1 / 1000) (hr : α = 0 \/ (tau <= α / b /\ α / b <= Bg / 8)) : Ra (fdiv x y) (a / b) (α / b) (201 / 100 * e + 203 / 100 * uu) := by
 obtain ⟨fx, h0, h1, h3⟩ := hx
 have hb0 : b ≠ 0 := by grind
 have hy0 : 0 < rv y := by
  have := Rat.mul_nonneg (by grind : 0 <= 1 / 1000 - e) (Rat.le_of_lt hb)
  have := hy.1
  grind
 have hyn : rv y ≠ 0 := by grind
 rcases hr with hα | ⟨r1, r2⟩
 ·have ha : a = 0 := by rw [hα] at h1; rcases h1 with h | h <;> rw [h]; rfl
  have hx0 : rv x = 0 := by rw [hα, ha, Rat.mul_zero] at h3; obtain ⟨c1, c2⟩ := h3; grind
  obtain ⟨d1, d2, d3⟩ := div_near fx fy hyn (by rw [hx0, Rat.div_def, Rat.zero_mul]; have := Bg_ge; unfold Bd; grind)
  have e0 : α / b = 0 := by rw [hα, Rat.div_def, Rat.zero_mul]
  have e1 : a / b = 0 := by rw [ha, Rat.div_def, Rat.zero_mul]
  rw [e0, e1]
  refine ⟨d1, Rat.le_refl, .inl rfl, ?_⟩
  rw [d2 hx0]; unfold Bd; grind
 ·have hρ : α / b * b = α := by grind
  have tp := tau_pos
  have hρ0 : 0 < α / b := by grind
  have et := eta_tau
  have key : ∀ A : Rat, Bd (A - α) (e * α) -> Bd (A / rv y - α / b) (201 / 100 * e * (α / b)) /\ 0 <= A / rv y /\ A / rv y <= 2 * (α / b) := by
   intro A hA
   exact alg40 hb hA hy he he2 h0 hρ (by grind)
  have hb1 : 201 / 100 * e * (α / b) <= 1 / 100 * (α / b) := by
   have := Rat.mul_nonneg (by grind : 0 <= 1 / 1000 - e) (Rat.le_of_lt hρ0)
   generalize α / b = ρ at *
   grind
  refine (?_ : Ra _ _ _ _)
  rcases h1 with h | h
  ·rw [h] at h3
   obtain ⟨k1, k2, k3⟩ := key (rv x) h3
   have hq : Bd (rv x / rv y) (101 / 100 * (α / b)) := by
    obtain ⟨c1, c2⟩ := k1
    generalize α / b = ρ at *
    generalize rv x / rv y = q at *
    exact ⟨by grind, by grind⟩
   obtain ⟨d1, -, d3⟩ := div_near fx fy hyn (hq.mono (by generalize α / b = ρ at *; grind))
   refine ⟨d1, Rat.le_of_lt hρ0, .inl (by rw [h]), ?_⟩
   rw [h]
   have := fin_alg (d3 _ hq) k1 (by generalize α / b = ρ at *; grind) (Rat.le_of_lt hρ0)
   exact this.mono (by generalize α / b = ρ at *; grind)
  ·rw [h] at h3
   have h4 : Bd (-(rv x) - α) (e * α) := by obtain ⟨c1, c2⟩ := h3; exact ⟨by grind, by grind⟩
   obtain ⟨k1, k2, k3⟩ := key (-(rv x)) h4
   have en : -(rv x) / rv y = -(rv x / rv y) := by rw [Rat.div_def, Rat.div_def, Rat.neg_mul]
   rw [en] at k1 k2 k3
   have hq : Bd (rv x / rv y) (101 / 100 * (α / b)) := by
    obtain ⟨c1, c2⟩ := k1
    generalize α / b = ρ at *
    generalize rv x / rv y = q at *
    exact ⟨by grind, by grind⟩
   obtain ⟨d1, -, d3⟩ := div_near fx fy hyn (hq.mono (by generalize α / b = ρ at *; grind))
   have e5 : a / b = -(α / b) := by rw [h, Rat.div_def, Rat.div_def, Rat.neg_mul]
   rw [e5]
   refine ⟨d1, Rat.le_of_lt hρ0, .inr rfl, ?_⟩
   have h6 : Bd (-(rv (fdiv x y)) - -(rv x / rv y)) (2 * uu * (101 / 100 * (α / b)) + eta) := by
    obtain ⟨c1, c2⟩ := d3 _ hq
    exact ⟨by grind, by grind⟩
   have := fin_alg h6 k1 (by generalize α / b = ρ at *; grind) (Rat.le_of_lt hρ0)
   have h7 := this.mono (B := (201 / 100 * e + 203 / 100 * uu) * (α / b)) (by generalize α / b = ρ at *; grind)
   obtain ⟨c1, c2⟩ := h7
   exact ⟨by grind, by grind⟩
theorem amt_mul {a α z : Rat} (h : a = α \/ a = -α) : a * z = α * z \/ a * z = -(α * z) := by
 rcases h with h | h
 ·left; rw [h]
 ·right; rw [h, Rat.neg_mul]
theorem scl_alg {w x a α z e t : Rat} (h1 : Bd (w - x * z) (uu * (1001 / 1000 * α * z) + t)) (h3 : Bd (x - a) (e * α)) (hz : 0 <= z) (ht : t * 1000000 <= uu * (α * z)) (hα : 0 <= α) : Bd (w - a * z) ((e + 102 / 100 * uu) * (α * z)) := by
 obtain ⟨a1, a2⟩ := h1
 obtain ⟨b1, b2⟩ := h3
 have k1 := Rat.mul_nonneg (by grind : 0 <= x - a + e * α) hz
 have k2 := Rat.mul_nonneg (by grind : 0 <= e * α - (x - a)) hz
 have k3 := Rat.mul_nonneg hα hz
 constructor <;> grind
theorem Ra.scl {x : Fl} {a α e : Rat} (hx : Ra x a α e) (he2 : e <= 1 / 1000) {k : Int} (hk : -2000 <= k) (hr : α = 0 \/ (tau <= α * pz k /\ α * pz k <= Bg / 2)) : Ra (sclF x k) (a * pz k) (α * pz k) (e + 102 / 100 * uu) := by
 have hbd := hx.bd he2
 obtain ⟨fx, h0, h1, h3⟩ := hx
 have hz := pz_pos k
 rcases hr with hα | ⟨r1, r2⟩
 ·have ha : a = 0 := by rw [hα] at h1; rcases h1 with h | h <;> rw [h]; rfl
  have hx0 : rv x = 0 := by rw [hα, ha, Rat.mul_zero] at h3; obtain ⟨c1, c2⟩ := h3; grind
  obtain ⟨d1, d2⟩ := scl_nought fx hx0 k
  rw [hα, ha, Rat.zero_mul]
  refine ⟨d1, Rat.le_refl, .inl rfl, ?_⟩
  rw [d2]; unfold Bd; grind
 ·have hzb : Bd (pz k) (pz k) := by unfold Bd; exact ⟨by grind, Rat.le_refl⟩
  have hb := hbd.mul hzb
  have hk0 := Rat.mul_nonneg h0 (Rat.le_of_lt hz)
  have hbig : 1001 / 1000 * α * pz k <= Bg := by
   have e1 : 1001 / 1000 * α * pz k = 1001 / 1000 * (α * pz k) := by grind
   rw [e1]
   have := Bg_ge
   generalize α * pz k = q at *
   grind
  have et := eta_tau
  refine ⟨scl_fin fx hk (hb.mono hbig), hk0, amt_mul h1, ?_⟩
  exact scl_alg (scl_near fx hk (hb.mono hbig) _ hb) h3 (Rat.le_of_lt hz) (by generalize α * pz k = q at *; grind) h0
theorem Ra.dbl {x : Fl} {a α e : Rat} (hx : Ra x a α e) (he2 : e <= 1 / 1000) (hr : α = 0 \/ (tau <= α /\ α <= Bg / 8)) : Ra (fmul x (some 4611686018427387904)) (a * 2) (α * 2) (e + 102 / 100 * uu) := by
 have hbd := hx.bd he2
 obtain ⟨fx, h0, h1, h3⟩ := hx
 have h22 : Bd (2 : Rat) 2 := by unfold Bd; grind
 have e2 : rv (some 4611686018427387904) = 2 := by
  obtain ⟨-, c1, c2⟩ := two_Ap
  grind
 have hb := hbd.mul h22
 have hB := Bg_ge
 obtain ⟨m1, m2, m3⟩ := mul_near fx two_Ap.1 (by
  rw [e2]
  rcases hr with hα | ⟨r1, r2⟩
  ·rw [hα] at hb; exact hb.mono (by grind)
  ·exact hb.mono (by grind))
 rw [e2] at m2 m3
 refine ⟨m1, by grind, amt_mul h1, ?_⟩
 rcases hr with hα | ⟨r1, r2⟩
 ·have ha : a = 0 := by rw [hα] at h1; rcases h1 with h | h <;> rw [h]; rfl
  have hx0 : rv x = 0 := by rw [hα, ha, Rat.mul_zero] at h3; obtain ⟨c1, c2⟩ := h3; grind
  rw [m2 (by rw [hx0, Rat.zero_mul]), hα, ha]
  unfold Bd; grind
 ·have et := eta_tau
  exact scl_alg (m3 _ hb) h3 (by grind) (by grind) h0
end Go.Proofs.YtnfgnjciliapaaaGreatDoor
end
