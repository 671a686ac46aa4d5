/-
  A UNIT MADE: each of its numbers near the exact quotient; scaled numbers.
  Conditions: numbers not above three, squares' sum not below one.
-/
import Derived.Test.YtnfgnjciliapaaaGreatDoorFlG
import Derived.Test.YtnfgnjciliapaaaGreatDoorR4
section
namespace Go.Proofs.YtnfgnjciliapaaaGreatDoor
open Go Go.Mach Ieee
set_option linter.unusedVariables false

theorem a_unit {a Y yy : Rat} (h : a * a = yy) (h1 : yy <= Y) (h2 : Y <= 1001 / 1000) (h0 : 0 <= a) : a <= kap := by
  rcases (Rat.le_total : a <= kap \/ kap <= a) with h3 | h3
  · exact h3
  · have := Rat.mul_nonneg (by grind : 0 <= a - kap) (by grind : 0 <= a + kap)
    grind
theorem quo_near {l g : Fl} (hl : finF l = true) (hg : finF g = true) (h0 : 0 < rv g) {Y : Rat} (hY : Y <= 1001 / 1000) (hle : rv l / rv g * (rv l / rv g) <= Y) : Bd (rv (fdiv l g) - rv l / rv g) (205 / 100 * uu) /\ Bd (rv l / rv g) kap := by
  obtain ⟨a, a0, a1, a2⟩ := abs_ex (rv l / rv g)
  have a4 := a_unit a2 hle hY a0
  have hB := Bg_ge
  have he := eta_le
  have he0 := eta_pos
  obtain ⟨d1, d2, d3⟩ := div_near hl hg (by intro h; rw [h] at h0; exact absurd h0 (by decide)) (a1.mono (by grind))
  exact ⟨(d3 a a1).mono (by grind), a1.mono a4⟩
theorem unit_near2 {l0 l1 l2 l3 : Fl} (f0 : finF l0 = true) (f1 : finF l1 = true) (f2 : finF l2 = true) (f3 : finF l3 = true) (b0 : Bd (rv l0) 3) (b1 : Bd (rv l1) 3) (b2 : Bd (rv l2) 3) (b3 : Bd (rv l3) 3)
    (h1 : 1 <= rv l0 * rv l0 + rv l1 * rv l1 + rv l2 * rv l2 + rv l3 * rv l3) {g : Fl} (hg : g = fsqrt (fadd (fadd (fadd (fadd (some 0) (fmul l0 l0)) (fmul l1 l1)) (fmul l2 l2)) (fmul l3 l3))) :
    0 < rv g /\ (Bd (rv (fdiv l0 g) - rv l0 / rv g) (205 / 100 * uu) /\ Bd (rv l0 / rv g) kap) /\ (Bd (rv (fdiv l1 g) - rv l1 / rv g) (205 / 100 * uu) /\ Bd (rv l1 / rv g) kap) /\ (Bd (rv (fdiv l2 g) - rv l2 / rv g) (205 / 100 * uu) /\ Bd (rv l2 / rv g) kap) /\ (Bd (rv (fdiv l3 g) - rv l3 / rv g) (205 / 100 * uu) /\ Bd (rv l3 / rv g) kap) /\
    Bd (Nq (rv l0 / rv g) (rv l1 / rv g) (rv l2 / rv g) (rv l3 / rv g) - 1) (81 / 10 * uu) := by
  obtain ⟨n1, n2⟩ := len4_near f0 f1 f2 f3 b0 b1 b2 b3
  generalize fadd (fadd (fadd (fadd (some 0) (fmul l0 l0)) (fmul l1 l1)) (fmul l2 l2)) (fmul l3 l3) = n at *
  have hn0 : 0 < rv n := by
    obtain ⟨a, b⟩ := n2
    generalize rv l0 * rv l0 + rv l1 * rv l1 + rv l2 * rv l2 + rv l3 * rv l3 = s at *
    grind
  obtain ⟨s1, s2, s3⟩ := sqrt_near n1 hn0
  rw [<- hg] at s1 s2 s3
  have hr0 : rv g ≠ 0 := by intro h; rw [h] at s2; exact absurd s2 (by decide)
  have hrr := Rat.mul_pos s2 s2
  have e0 := four_alg hr0 (rfl : rv l0 / rv g = rv l0 / rv g)
  have e1 := four_alg hr0 (rfl : rv l1 / rv g = rv l1 / rv g)
  have e2 := four_alg hr0 (rfl : rv l2 / rv g = rv l2 / rv g)
  have e3 := four_alg hr0 (rfl : rv l3 / rv g = rv l3 / rv g)
  have z0 := sq_nonneg (rv l0 / rv g)
  have z1 := sq_nonneg (rv l1 / rv g)
  have z2 := sq_nonneg (rv l2 / rv g)
  have z3 := sq_nonneg (rv l3 / rv g)
  have eY : (rv l0 / rv g * (rv l0 / rv g) + rv l1 / rv g * (rv l1 / rv g) + rv l2 / rv g * (rv l2 / rv g) + rv l3 / rv g * (rv l3 / rv g)) * (rv g * rv g) = rv l0 * rv l0 + rv l1 * rv l1 + rv l2 * rv l2 + rv l3 * rv l3 := by
    rw [<- e0, <- e1, <- e2, <- e3, Rat.add_mul, Rat.add_mul, Rat.add_mul]
  obtain ⟨y1, y2⟩ := y_alg h1 n2 s3 hrr eY
  have hNq : Nq (rv l0 / rv g) (rv l1 / rv g) (rv l2 / rv g) (rv l3 / rv g) = rv l0 / rv g * (rv l0 / rv g) + rv l1 / rv g * (rv l1 / rv g) + rv l2 / rv g * (rv l2 / rv g) + rv l3 / rv g * (rv l3 / rv g) := rfl
  rw [hNq]
  generalize hYY : rv l0 / rv g * (rv l0 / rv g) + rv l1 / rv g * (rv l1 / rv g) + rv l2 / rv g * (rv l2 / rv g) + rv l3 / rv g * (rv l3 / rv g) = Y at *
  have hY2 : Y <= 1001 / 1000 := by obtain ⟨a, b⟩ := y1; grind
  clear e0 e1 e2 e3
  exact ⟨s2, quo_near f0 s1 s2 hY2 (by generalize rv l0 / rv g * (rv l0 / rv g) = x at *; grind), quo_near f1 s1 s2 hY2 (by generalize rv l1 / rv g * (rv l1 / rv g) = x at *; grind),
    quo_near f2 s1 s2 hY2 (by generalize rv l2 / rv g * (rv l2 / rv g) = x at *; grind), quo_near f3 s1 s2 hY2 (by generalize rv l3 / rv g * (rv l3 / rv g) = x at *; grind), y1⟩
@[irreducible] def K2 : Nat := 2000
theorem K2_eq : K2 = 2000 := by unfold K2; rfl
def pz (k : Int) : Rat := 2 ^ (k + (K2 : Int)).toNat * Ue K2
theorem pz_pos (k : Int) : 0 < pz k := Rat.mul_pos (two_pos _) (Ue_pos _)
theorem scl_near {x : Fl} (hx : finF x = true) {k : Int} (h1 : -2000 <= k) (hb : Bd (rv x * pz k) Bg) : ∀ A, Bd (rv x * pz k) A -> Bd (rv (sclF x k) - rv x * pz k) (uu * A + eta) := by
  obtain ⟨b, s, m, i, rfl, h⟩ := finF_num hx
  have gi := place_ge h
  intro A hA
  rw [sclF_num h]
  have hK := K2_eq
  have hS := Sp_eq
  have ex : ((signed s m (i + k + ((Sp + K2 : Nat) : Int)).toNat : Int) : Rat) * Ue (Sp + K2) = rv (some b) * pz k := by
    rw [rv_num h, signed_cast, signed_cast]
    unfold pz
    have e : (i + k + ((Sp + K2 : Nat) : Int)).toNat = (i + 1074).toNat + (k + (K2 : Int)).toNat := by omega
    rw [e, Nat.pow_add, Ue_add, Rat.natCast_mul, Rat.natCast_mul, Rat.natCast_mul, Rat.natCast_pow _ (k + (K2 : Int)).toNat]
    generalize ((2 ^ (i + 1074).toNat : Nat) : Rat) = a
    have e2 : ((2 : Nat) : Rat) ^ (k + (K2 : Int)).toNat = (2 : Rat) ^ (k + (K2 : Int)).toNat := rfl
    rw [e2]
    generalize (2 : Rat) ^ (k + (K2 : Int)).toNat = c
    generalize Ue Sp = u
    generalize Ue K2 = v
    generalize (m : Rat) = n
    cases s
    · rw [if_neg (by decide), if_neg (by decide)]; grind
    · rw [if_pos rfl, if_pos rfl]; grind
  by_cases hm : m = 0
  · have e1 : rv (some b) * pz k = 0 := by rw [<- ex, hm, signed_zero]; exact Rat.zero_mul _
    rw [hm, nearest_zero, (rv_word0 s).2, e1]
    refine Bd_zero ?_
    have := hA.nonneg
    have := eta_pos
    grind
  · have hg := not_great hm (i := i + k) (E := Sp + K2) (by omega) (by rw [ex]; exact hb)
    obtain ⟨n1, n2⟩ := near_rat s hm (i := i + k) (by omega) (E := Sp + K2) (by omega) (by omega)
    have h3 := n2 A (by rw [ex]; exact hA)
    rw [ex] at h3
    have h4 : (if -1074 <= i + k then (0 : Rat) else eta) <= eta := by
      have := eta_pos
      split <;> grind
    generalize (if -1074 <= i + k then (0 : Rat) else eta) = w at h3 h4
    obtain ⟨a1, a2⟩ := h3
    exact ⟨by grind, by grind⟩
theorem room_mul {M c : Rat} (hM : M = 0 \/ (tS <= M /\ M <= tG)) (h1 : 1 <= c) (h2 : c <= 100) : Room (c * M) := by
  have a := eta_small
  have b := tS_pos
  have d := big_ok (c := 100000) (by grind)
  have e := tG_pos
  have f := eta_pos
  unfold Room
  generalize tS = t at *
  generalize tG = g at *
  generalize Bg = B at *
  generalize eta = n at *
  rcases hM with h | ⟨h, h'⟩
  · rw [h, Rat.mul_zero]; exact ⟨Rat.le_refl, .inl rfl, by grind⟩
  · have m0 : 0 <= M := by grind
    have k1 := Rat.mul_nonneg (by grind : 0 <= c - 1) m0
    have k2 := Rat.mul_nonneg (by grind : 0 <= 100 - c) m0
    have e1 : (c - 1) * M = c * M - M := by grind
    have e2 : (100 - c) * M = 100 * M - c * M := by grind
    rw [e1] at k1
    rw [e2] at k2
    generalize c * M = z at *
    exact ⟨by grind, .inr (by grind), by grind⟩
theorem Tm.bnd {a b c M : Rat} (ha : Tm a) (hb : Tm b) (hc : Tm c) (hM0 : 0 <= M) (h : M = a \/ M = -a \/ M = b \/ M = -b \/ M = c \/ M = -c) : M = 0 \/ (tS <= M /\ M <= tG) := by
  have key : ∀ x : Rat, Tm x -> (M = x \/ M = -x) -> M = 0 \/ (tS <= M /\ M <= tG) := by
    intro x hx hMx
    rcases hx with h | h | h <;> rcases hMx with k | k
    · left; rw [k, h]
    · left; rw [k, h]; rfl
    · right; rw [k]; exact h
    · exact absurd h.1 (neg_no tS_pos hM0 k)
    · exact absurd h.1 (neg_no' tS_pos hM0 k)
    · right; rw [k]; exact h
  rcases h with h | h | h | h | h | h
  · exact key a ha (.inl h)
  · exact key a ha (.inr h)
  · exact key b hb (.inl h)
  · exact key b hb (.inr h)
  · exact key c hc (.inl h)
  · exact key c hc (.inr h)
end Go.Proofs.YtnfgnjciliapaaaGreatDoor
end
section
namespace Go.Proofs.YtnfgnjciliapaaaGreatDoor
open Go Go.Mach Ieee
set_option linter.unusedVariables false

theorem bd_of_n {a R N : Rat} (hR : 0 <= R) (h : a * a + R = N) (hN : Bd (N - 1) (1 / 1000)) : Bd a kap := by
  obtain ⟨h1, h2⟩ := hN
  obtain ⟨y, y0, y1, y2⟩ := abs_ex a
  have := a_unit y2 (by grind : a * a <= N) (by grind) y0
  exact y1.mono this
theorem Un_bd {w x y z : Rat} (h : Bd (Nq w x y z - 1) (1 / 1000)) : Bd w kap /\ Bd x kap /\ Bd y kap /\ Bd z kap := by
  have s0 := sq_nonneg w
  have s1 := sq_nonneg x
  have s2 := sq_nonneg y
  have s3 := sq_nonneg z
  refine ⟨bd_of_n (R := x * x + y * y + z * z) (by grind) ?_ h, bd_of_n (R := w * w + y * y + z * z) (by grind) ?_ h, bd_of_n (R := w * w + x * x + z * z) (by grind) ?_ h, bd_of_n (R := w * w + x * x + y * y) (by grind) ?_ h⟩ <;> (unfold Nq; grind)
theorem close0 {a b c d p q r s : Rat} (ha : Un a b c d) (hb : Un p q r s) {hw hx hy hz jw jx jy jz cc u v t m : Rat}
    (gw : Bd (hw - (a * p - b * q - c * r - d * s)) (147 / 10 * uu)) (gx : Bd (hx - (a * q + b * p + c * s - d * r)) (147 / 10 * uu)) (gy : Bd (hy - (a * r - b * s + c * p + d * q)) (147 / 10 * uu)) (gz : Bd (hz - (a * s + b * r - c * q + d * p)) (147 / 10 * uu))
    (hY : Bd (cc * cc * Nq hw hx hy hz - 1) (81 / 10 * uu)) (cw : Bd (cc * hw) kap) (cx : Bd (cc * hx) kap) (cy : Bd (cc * hy) kap) (cz : Bd (cc * hz) kap)
    (dw : Bd (jw - cc * hw) (205 / 100 * uu)) (dx : Bd (jx - cc * hx) (205 / 100 * uu)) (dy : Bd (jy - cc * hy) (205 / 100 * uu)) (dz : Bd (jz - cc * hz) (205 / 100 * uu))
    (hj : Bd (Nq jw jx jy jz - 1) (1 / 562949953421312)) (hu : Bd u m) (hv : Bd v m) (ht : Bd t m) :
    Bd (T0 jw jx jy jz u v t - T0 a b c d (T0 p q r s u v t) (T0 p r s q v t u) (T0 p s q r t u v)) (1190 * uu * m) := by
  have hP : Bd (Nq (a * p - b * q - c * r - d * s) (a * q + b * p + c * s - d * r) (a * r - b * s + c * p + d * q) (a * s + b * r - c * q + d * p) - 1) (641 / 10 * uu) := by
    rw [Nq_mul]; exact N2 ha hb
  obtain ⟨b0, b1, b2, b3⟩ := Un_bd (hP.mono (by grind))
  have k1 := joined0 hP b0 b1 b2 b3 gw gx gy gz hY cw cx cy cz dw dx dy dz hj hu hv ht
  have k2 := behind ha hb hu hv ht
  obtain ⟨a1, a2⟩ := k1
  obtain ⟨c1, c2⟩ := k2
  constructor <;> grind
theorem through {a b c d X Y Z x y z e : Rat} (ha : Un a b c d) (hx : Bd (x - X) e) (hy : Bd (y - Y) e) (hz : Bd (z - Z) e) : Bd (T0 a b c d x y z - T0 a b c d X Y Z) (301 / 100 * e) := by
  have h := T0_bd ha.n hx hy hz
  have l := T0_lin a b c d X Y Z (x - X) (y - Y) (z - Z)
  have e1 : X + (x - X) = x := by grind
  have e2 : Y + (y - Y) = y := by grind
  have e3 : Z + (z - Z) = z := by grind
  rw [e1, e2, e3] at l
  rw [l]
  have e4 : T0 a b c d X Y Z + T0 a b c d (x - X) (y - Y) (z - Z) - T0 a b c d X Y Z = T0 a b c d (x - X) (y - Y) (z - Z) := by grind
  rw [e4]; exact h
theorem Un.neg {a b c d : Rat} (h : Un a b c d) : Un a (-b) (-c) (-d) := by
  unfold Un Nq at *
  have : a * a + -b * -b + -c * -c + -d * -d - 1 = a * a + b * b + c * c + d * d - 1 := by grind
  rw [this]; exact h
theorem back0 {a b c d u v t m : Rat} (ha : Un a b c d) (hu : Bd u m) (hv : Bd v m) (ht : Bd t m) : Bd (T0 a (-b) (-c) (-d) (T0 a b c d u v t) (T0 a c d b v t u) (T0 a d b c t u v) - u) (260 * uu * m) := by
  have m0 := hu.nonneg
  have k := behind ha.neg ha hu hv ht
  have e : R0 (a * a - -b * b - -c * c - -d * d) (a * b + -b * a + -c * d - -d * c) (a * c - -b * d + -c * a + -d * b) (a * d + -b * c - -c * b + -d * a) u v t = Nq a b c d * Nq a b c d * u := by
    unfold R0 ra rb rc Nq
    have z1 : a * b + -b * a + -c * d - -d * c = 0 := by grind
    have z2 : a * c - -b * d + -c * a + -d * b = 0 := by grind
    have z3 : a * d + -b * c - -c * b + -d * a = 0 := by grind
    rw [z1, z2, z3]
    have w1 : a * a - -b * b - -c * c - -d * d = a * a + b * b + c * c + d * d := by grind
    rw [w1]
    generalize a * a + b * b + c * c + d * d = n
    grind
  rw [e] at k
  have h2 := (N2 ha ha).mul hu
  generalize T0 a (-b) (-c) (-d) (T0 a b c d u v t) (T0 a c d b v t u) (T0 a d b c t u v) = X at *
  have e5 : (Nq a b c d * Nq a b c d - 1) * u = Nq a b c d * Nq a b c d * u - u := by grind
  rw [e5] at h2
  generalize Nq a b c d * Nq a b c d * u = Y at *
  obtain ⟨a1, a2⟩ := k
  obtain ⟨b1, b2⟩ := h2
  constructor <;> grind
theorem T0_mat (w x y z p q r : Rat) : T0 w x y z p q r = (1 - 2 * (y * y + z * z)) * p + 2 * (x * y - w * z) * q + 2 * (x * z + w * y) * r := by
  unfold T0; grind
theorem quo_z {l x z A e : Rat} (hz : 0 < z) (hz1 : 99 / 100 <= z) (h : Bd (l - x * z) (uu * (A * z) + e)) (he : 0 <= e) : Bd (l / z - x) (uu * A + 102 / 100 * e) := by
  have hz0 : z ≠ 0 := by grind
  have e1 : (l / z - x) * z = l - x * z := by grind
  rw [<- e1] at h
  generalize l / z - x = t at *
  obtain ⟨a1, a2⟩ := h
  have k0 := Rat.mul_nonneg (by grind : 0 <= z - 99 / 100) he
  constructor
  · rcases (Rat.le_total : -(uu * A + 102 / 100 * e) <= t \/ t <= -(uu * A + 102 / 100 * e)) with k | k
    · exact k
    · have := Rat.mul_nonneg (by grind : 0 <= -(uu * A + 102 / 100 * e) - t) (by grind : 0 <= z)
      by_cases h0 : t = -(uu * A + 102 / 100 * e)
      · rw [h0]; exact Rat.le_refl
      · have := Rat.mul_pos (by grind : 0 < -(uu * A + 102 / 100 * e) - t) hz
        grind
  · rcases (Rat.le_total : t <= uu * A + 102 / 100 * e \/ uu * A + 102 / 100 * e <= t) with k | k
    · exact k
    · by_cases h0 : t = uu * A + 102 / 100 * e
      · rw [h0]; exact Rat.le_refl
      · have := Rat.mul_pos (by grind : 0 < t - (uu * A + 102 / 100 * e)) hz
        grind
end Go.Proofs.YtnfgnjciliapaaaGreatDoor
end
