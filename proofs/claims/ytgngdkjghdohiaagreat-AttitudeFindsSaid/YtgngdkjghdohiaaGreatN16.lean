/-
  TO A MATRIX AND BACK: four times a number of the quaternion, times the quaternion; what lies between the two.
  Conditions: numbers of units.
-/
import Derived.Test.YtgngdkjghdohiaaGreatFlG
section
namespace Go.Proofs.YtgngdkjghdohiaaGreat
open Go Go.Mach Ieee
set_option linter.unusedVariables false

theorem quarter {w x y z : Rat} (hN : Bd (Nq w x y z - 1) (1 / 1000)) (hx : x * x <= w * w + 1 / 1000) (hy : y * y <= w * w + 1 / 1000) (hz : z * z <= w * w + 1 / 1000) : 6 / 25 <= w * w := by
  obtain ⟨h1, h2⟩ := hN
  unfold Nq at *
  grind
theorem z_bd2 {G z : Rat} (h1 : 1 <= G * z) (h2 : G * z <= 2) (hl : 9 / 10 <= G) (hg : G <= 41 / 10) (hz : 0 < z) : 1 / 5 <= z /\ z <= 5 := by
  have a := Rat.mul_nonneg (by grind : 0 <= 41 / 10 - G) (by grind : 0 <= z)
  have b := Rat.mul_nonneg (by grind : 0 <= G - 9 / 10) (by grind : 0 <= z)
  constructor <;> grind
theorem c_small {c N Y : Rat} (h : c * c * N = Y) (hY : Bd (Y - 1) (81 / 10 * uu)) (hN : 3 <= N) : Bd c (6 / 10) := by
  obtain ⟨y, y0, y1, y2⟩ := abs_ex c
  have hk : y <= 6 / 10 := by
    rcases (Rat.le_total : y <= 6 / 10 \/ 6 / 10 <= y) with k | k
    · exact k
    · have a := Rat.mul_nonneg (by grind : 0 <= y - 6 / 10) (by grind : 0 <= y + 6 / 10)
      have b := Rat.mul_nonneg (by grind : 0 <= c * c - 36 / 100) (by grind : 0 <= N)
      have := hY.2
      grind
  exact y1.mono hk
theorem scl_fin {x : Fl} (hx : finF x = true) {k : Int} (h1 : -2000 <= k) (hb : Bd (rv x * pz k) Bg) : finF (sclF x k) = true := by
  obtain ⟨b, s, m, i, rfl, h⟩ := finF_num hx
  have gi := place_ge h
  rw [sclF_num h]
  have hK := K2_eq
  have hS := Sp_eq
  by_cases hm : m = 0
  · rw [hm, nearest_zero]; exact (rv_word0 s).1
  · have ex : ((signed s m (i + k + ((Sp + K2 : Nat) : Int)).toNat : Int) : Rat) * Ue (Sp + K2) = rv (some b) * pz k := by
      rw [rv_num h, signed_cast, signed_cast]
      unfold pz
      have e : (i + k + ((Sp + K2 : Nat) : Int)).toNat = (i + 1074).toNat + (k + (K2 : Int)).toNat := by omega
      rw [e, Nat.pow_add, Ue_add, Rat.natCast_mul, Rat.natCast_mul, Rat.natCast_mul, Rat.natCast_pow _ (k + (K2 : Int)).toNat]
      generalize ((2 ^ (i + 1074).toNat : Nat) : Rat) = a
      have e2 : ((2 : Nat) : Rat) ^ (k + (K2 : Int)).toNat = (2 : Rat) ^ (k + (K2 : Int)).toNat := rfl
      rw [e2]
      generalize (2 : Rat) ^ (k + (K2 : Int)).toNat = c
      generalize Ue Sp = u
      generalize Ue K2 = v
      generalize (m : Rat) = n
      cases s
      · rw [if_neg (by decide), if_neg (by decide)]; grind
      · rw [if_pos rfl, if_pos rfl]; grind
    have hg := not_great hm (i := i + k) (E := Sp + K2) (by omega) (by rw [ex]; exact hb)
    exact (near_rat s hm (i := i + k) (by omega) (E := Sp + K2) (by omega) (by omega)).1
theorem pz_inv {a b : Int} (h : a + b = 0) (ha : -2000 <= a) (hb : -2000 <= b) : pz a * pz b = 1 := by
  have hK := K2_eq
  unfold pz
  have e : (a + (K2 : Int)).toNat + (b + (K2 : Int)).toNat = K2 + K2 := by omega
  have h1 := pow_addR (a + (K2 : Int)).toNat (b + (K2 : Int)).toNat
  rw [e, pow_addR] at h1
  have h2 := Ue_mul K2
  generalize (2 : Rat) ^ (a + (K2 : Int)).toNat = p at *
  generalize (2 : Rat) ^ (b + (K2 : Int)).toNat = q at *
  generalize (2 : Rat) ^ K2 = r at *
  generalize Ue K2 = u at *
  have : p * u * (q * u) = (p * q) * (u * u) := by grind
  rw [this, <- h1]
  have e2 : r * r * (u * u) = (r * u) * (r * u) := by grind
  rw [e2, h2, Rat.one_mul]
theorem len3_near {l0 l1 l2 : Fl} (f0 : finF l0 = true) (f1 : finF l1 = true) (f2 : finF l2 = true) (b0 : Bd (rv l0) 3) (b1 : Bd (rv l1) 3) (b2 : Bd (rv l2) 3) :
    finF (fadd (fadd (fadd (some 0) (fmul l0 l0)) (fmul l1 l1)) (fmul l2 l2)) = true /\
    Bd (rv (fadd (fadd (fadd (some 0) (fmul l0 l0)) (fmul l1 l1)) (fmul l2 l2)) - (rv l0 * rv l0 + rv l1 * rv l1 + rv l2 * rv l2)) (5 * uu * (rv l0 * rv l0 + rv l1 * rv l1 + rv l2 * rv l2 + 1 / 10000)) := by
  obtain ⟨g0, h0⟩ := self_near f0 b0
  obtain ⟨g1, h1⟩ := self_near f1 b1
  obtain ⟨g2, h2⟩ := self_near f2 b2
  have q0 := sq_nonneg (rv l0)
  have q1 := sq_nonneg (rv l1)
  have q2 := sq_nonneg (rv l2)
  have r0 := b0.sq
  have r1 := b1.sq
  have r2 := b2.sq
  generalize fmul l0 l0 = P0 at *
  generalize fmul l1 l1 = P1 at *
  generalize fmul l2 l2 = P2 at *
  generalize rv l0 * rv l0 = L0 at *
  generalize rv l1 * rv l1 = L1 at *
  generalize rv l2 * rv l2 = L2 at *
  have hB := Bg_ge
  have z := rv_zero
  have s0 : Bd (rv (some 0) - 0) (1 * uu * (0 + 1 / 10000)) := by rw [z.2]; unfold Bd; grind
  obtain ⟨m0, n0⟩ := add_near z.1 g0 (by rw [z.2]; obtain ⟨a, b⟩ := h0; exact ⟨by grind, by grind⟩)
  have s1 := acc_alg s0 h0 Rat.le_refl q0 (by grind) (by grind) (by grind) (by grind) (by grind) n0
  rw [Rat.zero_add] at s1
  obtain ⟨m1, n1⟩ := add_near m0 g1 (by obtain ⟨a, b⟩ := h1; obtain ⟨c, d⟩ := s1; exact ⟨by grind, by grind⟩)
  have s2 := acc_alg s1 h1 q0 q1 (by grind) (by grind) (by grind) (by grind) (by grind) n1
  obtain ⟨m2, n2⟩ := add_near m1 g2 (by obtain ⟨a, b⟩ := h2; obtain ⟨c, d⟩ := s2; exact ⟨by grind, by grind⟩)
  have s3 := acc_alg s2 h2 (by grind) q2 (by grind) (by grind) (by grind) (by grind) (by grind) n2
  exact ⟨m2, s3.mono (by grind)⟩
theorem root_six {r s S : Rat} (hr : 0 < r) (h : Bd (r * r - s) (3 * uu * s)) (hs : Bd (s - S) (5 * uu * (S + 1 / 10000))) (h0 : 0 <= S) (h1 : S <= 27) : r <= 6 := by
  rcases (Rat.le_total : r <= 6 \/ 6 <= r) with k | k
  · exact k
  · have a := Rat.mul_nonneg (by grind : 0 <= r - 6) (by grind : 0 <= r + 6)
    obtain ⟨b1, b2⟩ := h
    obtain ⟨c1, c2⟩ := hs
    grind
end Go.Proofs.YtgngdkjghdohiaaGreat
end
section
namespace Go.Proofs.YtgngdkjghdohiaaGreat
open Go Go.Mach Ieee
set_option linter.unusedVariables false

structure P3 where
  x : Rat
  y : Rat
  z : Rat
namespace P3
def dot (p q : P3) : Rat := p.x * q.x + p.y * q.y + p.z * q.z
def crs (p q : P3) : P3 := ⟨p.y * q.z - p.z * q.y, p.z * q.x - p.x * q.z, p.x * q.y - p.y * q.x⟩
def add (p q : P3) : P3 := ⟨p.x + q.x, p.y + q.y, p.z + q.z⟩
def sub (p q : P3) : P3 := ⟨p.x - q.x, p.y - q.y, p.z - q.z⟩
def scl (c : Rat) (p : P3) : P3 := ⟨c * p.x, c * p.y, c * p.z⟩
def NB (p : P3) (e : Rat) : Prop := 0 <= e /\ p.dot p <= e * e
end P3
open P3
theorem le_of_sq {a b : Rat} (hb : 0 <= b) (h : a * a <= b * b) : a <= b := by
  rcases (Rat.le_total : a <= b \/ b <= a) with k | k
  · exact k
  · rcases Rat.le_iff_lt_or_eq.1 k with k | k
    · exfalso
      have h1 := Rat.mul_pos ((Rat.lt_iff_sub_pos _ _).1 k) (by grind : 0 < a + b)
      grind
    · rw [<- k]; exact Rat.le_refl
theorem Bd_of_sq {a b : Rat} (hb : 0 <= b) (h : a * a <= b * b) : Bd a b := by
  refine ⟨?_, le_of_sq hb h⟩
  have := le_of_sq (a := -a) hb (by grind)
  grind
theorem P3.NB.x {p : P3} {e : Rat} (h : NB p e) : Bd p.x e := Bd_of_sq h.1 (by
  have h2 := h.2
  unfold P3.dot at h2
  have a := sq_nonneg p.y
  have b := sq_nonneg p.z
  grind)
theorem P3.NB.y {p : P3} {e : Rat} (h : NB p e) : Bd p.y e := Bd_of_sq h.1 (by
  have h2 := h.2
  unfold P3.dot at h2
  have a := sq_nonneg p.x
  have b := sq_nonneg p.z
  grind)
theorem P3.NB.z {p : P3} {e : Rat} (h : NB p e) : Bd p.z e := Bd_of_sq h.1 (by
  have h2 := h.2
  unfold P3.dot at h2
  have a := sq_nonneg p.x
  have b := sq_nonneg p.y
  grind)
theorem P3.NB.of {p : P3} {e : Rat} (hx : Bd p.x e) (hy : Bd p.y e) (hz : Bd p.z e) : NB p (174 / 100 * e) := by
  have h0 := hx.nonneg
  have a := hx.sq
  have b := hy.sq
  have c := hz.sq
  refine ⟨by grind, ?_⟩
  unfold P3.dot
  have := sq_nonneg e
  grind
theorem P3.NB.mono {p : P3} {e f : Rat} (h : NB p e) (g : e <= f) : NB p f := by
  have h0 := h.1
  have h2 := h.2
  refine ⟨by grind, Rat.le_trans h2 ?_⟩
  have := Rat.mul_nonneg ((Rat.le_iff_sub_nonneg _ _).1 g) (by grind : 0 <= e + f)
  grind
theorem lagr (p q : P3) : (p.crs q).dot (p.crs q) = p.dot p * q.dot q - p.dot q * p.dot q := by
  unfold crs dot
  grind
theorem dot_nonneg (p : P3) : 0 <= p.dot p := by
  have a := sq_nonneg p.x
  have b := sq_nonneg p.y
  have c := sq_nonneg p.z
  unfold P3.dot
  grind
theorem P3.NB.dot {p q : P3} {e f : Rat} (h : NB p e) (g : NB q f) : Bd (p.dot q) (e * f) := by
  have h1 := lagr p q
  have h2 := dot_nonneg (p.crs q)
  have e0 := h.1
  have f0 := g.1
  refine Bd_of_sq (Rat.mul_nonneg e0 f0) ?_
  have h3 := h.2
  have g3 := g.2
  have p0 := dot_nonneg p
  have q0 := dot_nonneg q
  generalize p.dot p = P at *
  generalize q.dot q = Q at *
  generalize p.dot q = R at *
  generalize (p.crs q).dot (p.crs q) = S at *
  have a1 := Rat.mul_nonneg (by grind : 0 <= e * e - P) q0
  have a2 := Rat.mul_nonneg (by grind : 0 <= f * f - Q) (sq_nonneg e)
  grind
theorem P3.NB.crs {p q : P3} {e f : Rat} (h : NB p e) (g : NB q f) : NB (p.crs q) (e * f) := by
  have h1 := lagr p q
  have e0 := h.1
  have f0 := g.1
  refine ⟨Rat.mul_nonneg e0 f0, ?_⟩
  rw [h1]
  have h3 := h.2
  have g3 := g.2
  have p0 := dot_nonneg p
  have q0 := dot_nonneg q
  have r0 := sq_nonneg (p.dot q)
  generalize p.dot p = P at *
  generalize q.dot q = Q at *
  generalize p.dot q = R at *
  have a1 := Rat.mul_nonneg (by grind : 0 <= e * e - P) q0
  have a2 := Rat.mul_nonneg (by grind : 0 <= f * f - Q) (sq_nonneg e)
  grind
theorem P3.NB.add {p q : P3} {e f : Rat} (h : NB p e) (g : NB q f) : NB (p.add q) (e + f) := by
  have h1 := (h.dot g).2
  have e0 := h.1
  have f0 := g.1
  refine ⟨by grind, ?_⟩
  have h3 := h.2
  have g3 := g.2
  have i : (p.add q).dot (p.add q) = p.dot p + q.dot q + 2 * p.dot q := by unfold P3.add P3.dot; grind
  rw [i]
  grind
theorem P3.NB.neg {p : P3} {e : Rat} (h : NB p e) : NB (P3.scl (-1) p) e := by
  refine ⟨h.1, ?_⟩
  have i : (P3.scl (-1) p).dot (P3.scl (-1) p) = p.dot p := by unfold P3.scl P3.dot; grind
  rw [i]; exact h.2
theorem P3.NB.scl {p : P3} {e c k : Rat} (h : NB p e) (hc : Bd c k) : NB (P3.scl c p) (k * e) := by
  refine ⟨Rat.mul_nonneg hc.nonneg h.1, ?_⟩
  have i : (P3.scl c p).dot (P3.scl c p) = c * c * p.dot p := by unfold P3.scl P3.dot; grind
  rw [i]
  have h3 := h.2
  have c2 := hc.sq
  have p0 := dot_nonneg p
  have a1 := Rat.mul_nonneg (by grind : 0 <= k * k - c * c) p0
  have a2 := Rat.mul_nonneg (by grind : 0 <= e * e - p.dot p) (sq_nonneg k)
  grind
theorem P3.NB.sub {p q : P3} {e f : Rat} (h : NB p e) (g : NB q f) : NB (p.sub q) (e + f) := by
  have := h.add g.neg
  have i : p.add (P3.scl (-1) q) = p.sub q := by
    show P3.mk _ _ _ = P3.mk _ _ _
    congr 1 <;> (unfold P3.scl; grind)
  rwa [i] at this
theorem P3.NB.le {p q : P3} {e f : Rat} (h : NB q e) (g : NB (p.sub q) f) : NB p (e + f) := by
  have := h.add g
  have i : q.add (p.sub q) = p := by
    show P3.mk _ _ _ = p
    cases p
    show P3.mk _ _ _ = P3.mk _ _ _
    congr 1 <;> (unfold P3.sub; grind)
  rwa [i] at this
def P3.NA (p : P3) (e : Rat) : Prop := 0 <= e -> e * e <= p.dot p
theorem P3.NA.near {p q : P3} {e f : Rat} (h : NA q e) (g : NB (p.sub q) f) (k : Rat) (hp : NB p k) : e <= k + f := by
  rcases (Rat.le_total : e <= 0 \/ 0 <= e) with h0 | h0
  · have := hp.1
    have := g.1
    grind
  · have h1 := h h0
    have i : q = p.add (P3.scl (-1) (p.sub q)) := by
      cases q
      show P3.mk _ _ _ = P3.mk _ _ _
      congr 1 <;> (unfold P3.scl P3.sub; grind)
    have h2 := hp.add g.neg
    rw [<- i] at h2
    exact le_of_sq h2.1 (Rat.le_trans h1 h2.2)
end Go.Proofs.YtgngdkjghdohiaaGreat
end
section
namespace Go.Proofs.YtgngdkjghdohiaaGreat
open Go Go.Mach Ieee
set_option linter.unusedVariables false

theorem sq_off {x y e : Rat} (h : Bd (x - y) e) (hy : Bd y 2) : Bd (x * x - y * y) (e * (4 + e)) := by
  have h2 : Bd (x + y) (4 + e) := by
    obtain ⟨a, b⟩ := h
    obtain ⟨c, d⟩ := hy
    exact ⟨by grind, by grind⟩
  have := h.mul h2
  have i : (x - y) * (x + y) = x * x - y * y := by grind
  rwa [i] at this
theorem len_lin {S n ss l0 l1 l2 X Y Z : Rat} (hS : X + Y + Z = S) (h0 : Bd (l0 - X) (805 / 100 * uu)) (h1 : Bd (l1 - Y) (805 / 100 * uu)) (h2 : Bd (l2 - Z) (805 / 100 * uu))
    (hn : Bd (n - (l0 + l1 + l2)) (5 * uu * (l0 + l1 + l2 + 1 / 10000))) (hs : Bd (ss - n) (3 * uu * n)) (h : 1 <= S) : Bd (ss - S) (34 * uu * S) := by
  obtain ⟨a1, a2⟩ := h0
  obtain ⟨b1, b2⟩ := h1
  obtain ⟨c1, c2⟩ := h2
  obtain ⟨d1, d2⟩ := hn
  obtain ⟨e1, e2⟩ := hs
  exact ⟨by grind, by grind⟩
theorem len_alg {S z s n l0 l1 l2 X Y Z : Rat} (hS : X * X + Y * Y + Z * Z = S) (b0 : Bd (X * z) 2) (b1 : Bd (Y * z) 2) (b2 : Bd (Z * z) 2)
    (h0 : Bd (l0 - X * z) (201 / 100 * uu)) (h1 : Bd (l1 - Y * z) (201 / 100 * uu)) (h2 : Bd (l2 - Z * z) (201 / 100 * uu))
    (hn : Bd (n - (l0 * l0 + l1 * l1 + l2 * l2)) (5 * uu * (l0 * l0 + l1 * l1 + l2 * l2 + 1 / 10000))) (hs : Bd (s * s - n) (3 * uu * n)) (h : 1 <= S * (z * z)) : Bd (s * s - S * (z * z)) (34 * uu * (S * (z * z))) := by
  have q0 := (sq_off h0 b0).mono (B := 805 / 100 * uu) (by grind)
  have q1 := (sq_off h1 b1).mono (B := 805 / 100 * uu) (by grind)
  have q2 := (sq_off h2 b2).mono (B := 805 / 100 * uu) (by grind)
  refine len_lin ?_ q0 q1 q2 hn hs h
  rw [<- hS]; grind
theorem sq_div {S z s : Rat} (hz : 0 < z) (h : Bd (s * s - S * (z * z)) (34 * uu * (S * (z * z)))) : Bd (s / z * (s / z) - S) (34 * uu * S) := by
  have hz0 : z ≠ 0 := by grind
  have e : s / z * z = s := by rw [Rat.div_mul_cancel hz0]
  generalize s / z = r at *
  subst e
  have zz := Rat.mul_pos hz hz
  have e1 : r * z * (r * z) = r * r * (z * z) := by grind
  rw [e1] at h
  obtain ⟨h1, h2⟩ := h
  generalize z * z = w at *
  generalize r * r = q at *
  constructor
  · rcases (Rat.le_total : -(34 * uu * S) <= q - S \/ q - S <= -(34 * uu * S)) with k | k
    · exact k
    · rcases Rat.le_iff_lt_or_eq.1 k with k | k
      · have := Rat.mul_pos ((Rat.lt_iff_sub_pos _ _).1 k) zz
        grind
      · rw [k]; exact Rat.le_refl
  · rcases (Rat.le_total : q - S <= 34 * uu * S \/ 34 * uu * S <= q - S) with k | k
    · exact k
    · rcases Rat.le_iff_lt_or_eq.1 k with k | k
      · have := Rat.mul_pos ((Rat.lt_iff_sub_pos _ _).1 k) zz
        grind
      · rw [<- k]; exact Rat.le_refl
theorem lam_alg {r d S t : Rat} (hr : 0 < r) (h : Bd (r * r - S) (34 * uu * S)) (hd : Bd (d - r) (uu * r + t)) (ht : t <= uu * r / 1000) : 0 < d /\ Bd (d * d - S) (37 * uu * S) := by
  have hd' : Bd (d - r) (1001 / 1000 * uu * r) := hd.mono (by grind)
  clear hd
  have h0 := Rat.mul_pos hr hr
  have hb : Bd (d + r) (2001 / 1000 * r) := by
    obtain ⟨a, b⟩ := hd'
    exact ⟨by grind, by grind⟩
  have h2 := hd'.mul hb
  have i : (d - r) * (d + r) = d * d - r * r := by grind
  rw [i] at h2
  have j : 1001 / 1000 * uu * r * (2001 / 1000 * r) = 1001 / 1000 * uu * (2001 / 1000) * (r * r) := by grind
  rw [j] at h2
  constructor
  · obtain ⟨a, b⟩ := hd'
    grind
  · obtain ⟨a, b⟩ := h2
    obtain ⟨c, d⟩ := h
    generalize r * r = q at *
    exact ⟨by grind, by grind⟩
end Go.Proofs.YtgngdkjghdohiaaGreat
end
section
namespace Go.Proofs.YtgngdkjghdohiaaGreat
open Go Go.Mach Ieee P3
set_option linter.unusedVariables false

theorem P3.ext' {p q : P3} (hx : p.x = q.x) (hy : p.y = q.y) (hz : p.z = q.z) : p = q := by
  cases p; cases q
  simp only at hx hy hz
  subst hx hy hz; rfl
def Len (p : P3) (lo hi : Rat) : Prop := 0 <= lo /\ lo * lo <= p.dot p /\ NB p hi
theorem Len.mono {p : P3} {lo hi lo' hi' : Rat} (h : Len p lo hi) (h0 : 0 <= lo') (h1 : lo' <= lo) (h2 : hi <= hi') : Len p lo' hi' := by
  refine ⟨h0, Rat.le_trans ?_ h.2.1, h.2.2.mono h2⟩
  have := Rat.mul_nonneg (by grind : 0 <= lo - lo') (by grind : 0 <= lo + lo')
  grind
theorem Len.near {p q : P3} {lo hi f : Rat} (h : Len q lo hi) (g : NB (p.sub q) f) (hf : f <= lo) : Len p (lo - f) (hi + f) := by
  obtain ⟨h0, h1, h2⟩ := h
  have f0 := g.1
  refine ⟨by grind, ?_, h2.le g⟩
  rcases (Rat.le_total : (lo - f) * (lo - f) <= p.dot p \/ p.dot p <= (lo - f) * (lo - f)) with k | k
  · exact k
  · rcases Rat.le_iff_lt_or_eq.1 k with k | k
    · exfalso
      have p0 := dot_nonneg p
      have b0 : 0 < lo - f := by
        rcases Rat.le_iff_lt_or_eq.1 (by grind : 0 <= lo - f) with b | b
        · exact b
        · rw [<- b] at k; grind
      have hb : lo - f ≠ 0 := by grind
      have hab : p.dot p / (lo - f) * (lo - f) = p.dot p := by rw [Rat.div_mul_cancel hb]
      have ha0 : 0 <= p.dot p / (lo - f) := by
        rw [Rat.div_def]; exact Rat.mul_nonneg p0 (Rat.le_of_lt (Rat.inv_pos.2 b0))
      generalize p.dot p / (lo - f) = a at *
      have hlt : a < lo - f := by
        rcases (Rat.le_total : a <= lo - f \/ lo - f <= a) with j | j
        · rcases Rat.le_iff_lt_or_eq.1 j with j | j
          · exact j
          · rw [j] at hab; grind
        · have := Rat.mul_nonneg (by grind : 0 <= a - (lo - f)) (by grind : 0 <= lo - f)
          grind
      have hp : NB p ((a + (lo - f)) / 2) := by
        refine ⟨by grind, ?_⟩
        have := sq_nonneg (a - (lo - f))
        grind
      have i : q = p.add (P3.scl (-1) (p.sub q)) := by
        apply P3.ext' <;> (unfold P3.add P3.scl P3.sub; grind)
      have h3 := hp.add g.neg
      rw [<- i] at h3
      have h4 := le_of_sq h3.1 (Rat.le_trans h1 h3.2)
      grind
    · rw [<- k]; exact Rat.le_refl
theorem Len.scl {p : P3} {lo hi c : Rat} (h : Len p lo hi) (hc : 0 <= c) : Len (P3.scl c p) (c * lo) (c * hi) := by
  refine ⟨Rat.mul_nonneg hc h.1, ?_, h.2.2.scl ⟨by grind, Rat.le_refl⟩⟩
  have i : (P3.scl c p).dot (P3.scl c p) = c * c * p.dot p := by unfold P3.scl dot; grind
  rw [i]
  have := Rat.mul_nonneg (sq_nonneg c) (by have := h.2.1; grind : 0 <= p.dot p - lo * lo)
  grind
theorem len_of {l : Rat} {p : P3} (hl : 0 < l) (h : Bd (l * l - p.dot p) (37 * uu * p.dot p)) : Len p ((1 - 19 * uu) * l) ((1 + 19 * uu) * l) := by
  have h0 := Rat.mul_pos hl hl
  have p0 := dot_nonneg p
  obtain ⟨h1, h2⟩ := h
  refine ⟨by grind, ?_, by grind, ?_⟩
  · have i : (1 - 19 * uu) * l * ((1 - 19 * uu) * l) = (1 - 19 * uu) * (1 - 19 * uu) * (l * l) := by grind
    rw [i]
    generalize l * l = q at *
    grind
  · have i : (1 + 19 * uu) * l * ((1 + 19 * uu) * l) = (1 + 19 * uu) * (1 + 19 * uu) * (l * l) := by grind
    rw [i]
    generalize l * l = q at *
    grind
theorem lam_of {l lo hi : Rat} {p : P3} (hl : 0 < l) (h : Bd (l * l - p.dot p) (37 * uu * p.dot p)) (g : Len p lo hi) : (1 - 19 * uu) * lo <= l /\ l <= (1 + 19 * uu) * hi := by
  obtain ⟨g0, g1, g2, g3⟩ := g
  obtain ⟨h1, h2⟩ := h
  have q0 := sq_nonneg lo
  have q1 := sq_nonneg hi
  constructor
  · refine le_of_sq (Rat.le_of_lt hl) ?_
    have i : (1 - 19 * uu) * lo * ((1 - 19 * uu) * lo) = (1 - 19 * uu) * (1 - 19 * uu) * (lo * lo) := by grind
    rw [i]
    grind
  · refine le_of_sq (by grind) ?_
    have i : (1 + 19 * uu) * hi * ((1 + 19 * uu) * hi) = (1 + 19 * uu) * (1 + 19 * uu) * (hi * hi) := by grind
    rw [i]
    grind
def Rot (w x y z : Rat) (p : P3) : P3 := ⟨R0 w x y z p.x p.y p.z, R0 w y z x p.y p.z p.x, R0 w z x y p.z p.x p.y⟩
theorem rows_dot (w x y z : Rat) : ra w x y z * ra w x y z + rc w y z x * rc w y z x + rb w z x y * rb w z x y = Nq w x y z * Nq w x y z /\ ra w x y z * rb w x y z + rc w y z x * ra w y z x + rb w z x y * rc w z x y = 0 := by
  constructor
  · unfold ra rb rc Nq; grind
  · unfold ra rb rc; grind
theorem cyc_n (w x y z : Rat) : Nq w y z x = Nq w x y z /\ Nq w z x y = Nq w x y z := by constructor <;> (unfold Nq; grind)
theorem Rot_dot (w x y z : Rat) (p q : P3) : (Rot w x y z p).dot (Rot w x y z q) = Nq w x y z * Nq w x y z * p.dot q := by
  obtain ⟨a1, a2⟩ := rows_dot w x y z
  obtain ⟨b1, b2⟩ := rows_dot w y z x
  obtain ⟨c1, c2⟩ := rows_dot w z x y
  obtain ⟨n1, n2⟩ := cyc_n w x y z
  rw [n1] at b1
  rw [n2] at c1
  unfold Rot dot R0
  simp only
  generalize Nq w x y z * Nq w x y z = n at *
  generalize ra w x y z = x1 at *
  generalize rb w x y z = x2 at *
  generalize rc w x y z = x3 at *
  generalize ra w y z x = y1 at *
  generalize rb w y z x = y2 at *
  generalize rc w y z x = y3 at *
  generalize ra w z x y = z1 at *
  generalize rb w z x y = z2 at *
  generalize rc w z x y = z3 at *
  have e : (x1 * p.x + x2 * p.y + x3 * p.z) * (x1 * q.x + x2 * q.y + x3 * q.z) + (y1 * p.y + y2 * p.z + y3 * p.x) * (y1 * q.y + y2 * q.z + y3 * q.x) + (z1 * p.z + z2 * p.x + z3 * p.y) * (z1 * q.z + z2 * q.x + z3 * q.y) =
    (x1 * x1 + y3 * y3 + z2 * z2) * (p.x * q.x) + (y1 * y1 + z3 * z3 + x2 * x2) * (p.y * q.y) + (z1 * z1 + x3 * x3 + y2 * y2) * (p.z * q.z) + (x1 * x2 + y3 * y1 + z2 * z3) * (p.x * q.y + p.y * q.x) + (y1 * y2 + z3 * z1 + x2 * x3) * (p.y * q.z + p.z * q.y) + (z1 * z2 + x3 * x1 + y2 * y3) * (p.z * q.x + p.x * q.z) := by grind
  rw [e, a1, b1, c1, a2, b2, c2]
  grind
theorem rows_crs (w x y z : Rat) : ra w y z x * ra w z x y - rb w y z x * rc w z x y = Nq w x y z * ra w x y z /\ rb w y z x * rb w z x y - rc w y z x * ra w z x y = Nq w x y z * rb w x y z /\ rc w y z x * rc w z x y - ra w y z x * rb w z x y = Nq w x y z * rc w x y z := by
  refine ⟨?_, ?_, ?_⟩ <;> (unfold ra rb rc Nq; grind)
theorem Rot_crs (w x y z : Rat) (p q : P3) : (Rot w x y z p).crs (Rot w x y z q) = P3.scl (Nq w x y z) (Rot w x y z (p.crs q)) := by
  have key : ∀ (x y z : Rat) (p q : P3), R0 w y z x p.y p.z p.x * R0 w z x y q.z q.x q.y - R0 w z x y p.z p.x p.y * R0 w y z x q.y q.z q.x = Nq w x y z * R0 w x y z (p.y * q.z - p.z * q.y) (p.z * q.x - p.x * q.z) (p.x * q.y - p.y * q.x) := by
    intro x y z p q
    obtain ⟨a1, a2, a3⟩ := rows_crs w x y z
    unfold R0
    generalize Nq w x y z = n at *
    generalize ra w x y z = x1 at *
    generalize rb w x y z = x2 at *
    generalize rc w x y z = x3 at *
    generalize ra w y z x = y1 at *
    generalize rb w y z x = y2 at *
    generalize rc w y z x = y3 at *
    generalize ra w z x y = z1 at *
    generalize rb w z x y = z2 at *
    generalize rc w z x y = z3 at *
    have e : (y1 * p.y + y2 * p.z + y3 * p.x) * (z1 * q.z + z2 * q.x + z3 * q.y) - (z1 * p.z + z2 * p.x + z3 * p.y) * (y1 * q.y + y2 * q.z + y3 * q.x) =
      (y1 * z1 - y2 * z3) * (p.y * q.z - p.z * q.y) + (y2 * z2 - y3 * z1) * (p.z * q.x - p.x * q.z) + (y3 * z3 - y1 * z2) * (p.x * q.y - p.y * q.x) := by grind
    rw [e, a1, a2, a3]
    grind
  obtain ⟨n1, n2⟩ := cyc_n w x y z
  apply P3.ext'
  · exact key x y z p q
  · have := key y z x ⟨p.y, p.z, p.x⟩ ⟨q.y, q.z, q.x⟩
    rw [n1] at this
    exact this
  · have := key z x y ⟨p.z, p.x, p.y⟩ ⟨q.z, q.x, q.y⟩
    rw [n2] at this
    exact this
theorem Rot_scl (w x y z c : Rat) (p : P3) : Rot w x y z (P3.scl c p) = P3.scl c (Rot w x y z p) := by
  apply P3.ext' <;> (unfold Rot P3.scl R0; grind)
theorem Rot_sub (w x y z : Rat) (p q : P3) : Rot w x y z (p.sub q) = (Rot w x y z p).sub (Rot w x y z q) := by
  apply P3.ext' <;> (unfold Rot P3.sub R0; grind)
theorem Rot_add (w x y z : Rat) (p q : P3) : Rot w x y z (p.add q) = (Rot w x y z p).add (Rot w x y z q) := by
  apply P3.ext' <;> (unfold Rot P3.add R0; grind)
theorem P3.NB.rot {w x y z : Rat} {p : P3} {e : Rat} (h : NB p e) (hN : 0 <= Nq w x y z) : NB (Rot w x y z p) (Nq w x y z * e) := by
  refine ⟨Rat.mul_nonneg hN h.1, ?_⟩
  rw [Rot_dot]
  have := Rat.mul_nonneg (sq_nonneg (Nq w x y z)) (by have := h.2; grind : 0 <= e * e - p.dot p)
  grind
theorem Len.rot {w x y z : Rat} {p : P3} {lo hi : Rat} (h : Len p lo hi) (hN : 0 <= Nq w x y z) : Len (Rot w x y z p) (Nq w x y z * lo) (Nq w x y z * hi) := by
  refine ⟨Rat.mul_nonneg hN h.1, ?_, h.2.2.rot hN⟩
  rw [Rot_dot]
  have := Rat.mul_nonneg (sq_nonneg (Nq w x y z)) (by have := h.2.1; grind : 0 <= p.dot p - lo * lo)
  grind
end Go.Proofs.YtgngdkjghdohiaaGreat
end
section
namespace Go.Proofs.YtgngdkjghdohiaaGreat
open Go Go.Mach Ieee P3
set_option linter.unusedVariables false

structure Ax (P Q : P3) (l m h : Rat) (f U1 U2 U3 : P3) : Prop where
  l0 : 0 < l
  ll : Bd (l * l - P.dot P) (37 * uu * P.dot P)
  qm : NB Q m
  fm : NB (f.sub ((P3.scl (1 / l) P).crs Q)) (12 * uu * m)
  h0 : 0 < h
  hh : Bd (h * h - f.dot f) (37 * uu * f.dot f)
  mh : m <= 68 * h
  u1 : NB (U1.sub (P3.scl (1 / l) P)) (4 * uu)
  u2 : NB (U2.sub (P3.scl (1 / h) f)) (4 * uu)
  u3 : NB (U3.sub (U1.crs U2)) (8 * uu)
theorem bd_of_mul {x c e : Rat} (hc : 0 < c) (h : Bd (x * c) (e * c)) : Bd x e := by
  obtain ⟨h1, h2⟩ := h
  constructor
  · rcases (Rat.le_total : -e <= x \/ x <= -e) with k | k
    · exact k
    · rcases Rat.le_iff_lt_or_eq.1 k with k | k
      · have := Rat.mul_pos ((Rat.lt_iff_sub_pos _ _).1 k) hc
        grind
      · rw [k]; exact Rat.le_refl
  · rcases (Rat.le_total : x <= e \/ e <= x) with k | k
    · exact k
    · rcases Rat.le_iff_lt_or_eq.1 k with k | k
      · have := Rat.mul_pos ((Rat.lt_iff_sub_pos _ _).1 k) hc
        grind
      · rw [<- k]; exact Rat.le_refl
theorem inv_c {l : Rat} (c : Rat) (hl : 0 < l) : 1 / l * (c * l) = c := by
  have : l ≠ 0 := by grind
  grind
theorem inv_nn {l : Rat} (hl : 0 < l) : 0 <= 1 / l := by
  rw [Rat.div_def, Rat.one_mul]; exact Rat.le_of_lt (Rat.inv_pos.2 hl)
theorem P3.NB.symm {p q : P3} {e : Rat} (h : NB (p.sub q) e) : NB (q.sub p) e := by
  have := h.neg
  have i : P3.scl (-1) (p.sub q) = q.sub p := by apply P3.ext' <;> (unfold P3.scl P3.sub; grind)
  rwa [i] at this
theorem one_len {P : P3} {l lo hi : Rat} (hl : 0 < l) (h : Len P (lo * l) (hi * l)) : Len (P3.scl (1 / l) P) lo hi := by
  have := h.scl (inv_nn hl)
  rwa [inv_c _ hl, inv_c _ hl] at this
theorem scl_NB {p : P3} {l c : Rat} (hl : 0 < l) (h : NB p (c * l)) : NB (P3.scl (1 / l) p) c := by
  have := h.scl (c := 1 / l) (k := 1 / l) ⟨by have := inv_nn hl; grind, Rat.le_refl⟩
  rwa [inv_c _ hl] at this
section
variable {P Q : P3} {l m h : Rat} {f U1 U2 U3 : P3}
theorem Ax.e1 (H : Ax P Q l m h f U1 U2 U3) : Len (P3.scl (1 / l) P) (1 - 19 * uu) (1 + 19 * uu) := one_len H.l0 (len_of H.l0 H.ll)
theorem Ax.x (H : Ax P Q l m h f U1 U2 U3) : Len ((P3.scl (1 / l) P).crs Q) ((1 - 840 * uu) * h) ((1 + 840 * uu) * h) := by
  have h1 := len_of H.h0 H.hh
  have h0 := H.h0
  have hm := H.mh
  exact (h1.near H.fm.symm (by grind)).mono (by grind) (by grind) (by grind)
theorem Ax.e2 (H : Ax P Q l m h f U1 U2 U3) : Len (P3.scl (1 / h) ((P3.scl (1 / l) P).crs Q)) (1 - 840 * uu) (1 + 840 * uu) := one_len H.h0 H.x
theorem Ax.n2 (H : Ax P Q l m h f U1 U2 U3) : NB (U2.sub (P3.scl (1 / h) ((P3.scl (1 / l) P).crs Q))) (820 * uu) := by
  have h0 := H.h0
  have hm := H.mh
  have a : NB (P3.scl (1 / h) (f.sub ((P3.scl (1 / l) P).crs Q))) (816 * uu) := scl_NB h0 (H.fm.mono (by grind))
  have b := H.u2.add a
  have i : (U2.sub (P3.scl (1 / h) f)).add (P3.scl (1 / h) (f.sub ((P3.scl (1 / l) P).crs Q))) = U2.sub (P3.scl (1 / h) ((P3.scl (1 / l) P).crs Q)) := by
    generalize (P3.scl (1 / l) P).crs Q = X
    generalize 1 / h = c
    apply P3.ext' <;> (unfold P3.add P3.scl P3.sub; grind)
  rw [i] at b
  exact b.mono (by grind)
theorem crs_diff (a b c d : P3) : (a.crs b).sub (c.crs d) = ((a.sub c).crs b).add (c.crs (b.sub d)) := by
  apply P3.ext' <;> (unfold P3.add P3.crs P3.sub; grind)
theorem Ax.n3 (H : Ax P Q l m h f U1 U2 U3) : NB (U3.sub ((P3.scl (1 / l) P).crs (P3.scl (1 / h) ((P3.scl (1 / l) P).crs Q)))) (835 * uu) := by
  have n2 := H.n2
  have e2 := H.e2
  have e1 := H.e1
  have u1 := H.u1
  have u3 := H.u3
  generalize P3.scl (1 / h) ((P3.scl (1 / l) P).crs Q) = E2 at *
  generalize P3.scl (1 / l) P = E1 at *
  have hU2 := e2.2.2.le n2
  have a := (u1.crs hU2).add (e1.2.2.crs n2)
  rw [<- crs_diff] at a
  have b := u3.add a
  have i : (U3.sub (U1.crs U2)).add ((U1.crs U2).sub (E1.crs E2)) = U3.sub (E1.crs E2) := by
    generalize U1.crs U2 = X
    generalize E1.crs E2 = Y
    apply P3.ext' <;> (unfold P3.add P3.sub; grind)
  rw [i] at b
  exact b.mono (by grind)
end
theorem n_mul {N x : Rat} (hN : Bd (N - 1) (32 * uu)) (hx : 0 <= x) : (1 - 32 * uu) * x <= N * x /\ N * x <= (1 + 32 * uu) * x := by
  obtain ⟨h1, h2⟩ := hN
  have a := Rat.mul_nonneg (by grind : 0 <= N - (1 - 32 * uu)) hx
  have b := Rat.mul_nonneg (by grind : 0 <= 1 + 32 * uu - N) hx
  constructor <;> grind
section
variable {w x y z : Rat} {a b u v : P3} {l l' m : Rat}
theorem rel_one (hN : Bd (Nq w x y z - 1) (32 * uu)) (l0 : 0 < l) (ll : Bd (l * l - a.dot a) (37 * uu * a.dot a)) (l0' : 0 < l') (ll' : Bd (l' * l' - u.dot u) (37 * uu * u.dot u)) (hu : NB (u.sub (Rot w x y z a)) (190 * uu * l)) :
    Bd (l / l' - 1) (263 * uu) /\ NB ((P3.scl (1 / l') u).sub (P3.scl (l / l') (Rot w x y z (P3.scl (1 / l) a)))) (191 * uu) /\ NB ((P3.scl (1 / l') u).sub (Rot w x y z (P3.scl (1 / l) a))) (455 * uu) := by
  have hN0 : 0 <= Nq w x y z := by have := hN.1; grind
  have h1 := len_of l0 ll
  have h2 := h1.rot (w := w) (x := x) (y := y) (z := z) hN0
  have e1 : Nq w x y z * ((1 - 19 * uu) * l) = (1 - 19 * uu) * (Nq w x y z * l) := by grind
  have e2 : Nq w x y z * ((1 + 19 * uu) * l) = (1 + 19 * uu) * (Nq w x y z * l) := by grind
  obtain ⟨n1, n2⟩ := n_mul hN (Rat.le_of_lt l0)
  rw [e1, e2] at h2
  have h3 : Len (Rot w x y z a) ((1 - 52 * uu) * l) ((1 + 52 * uu) * l) := h2.mono (by grind) (by generalize Nq w x y z * l = k at *; grind) (by generalize Nq w x y z * l = k at *; grind)
  have h4 := (h3.near hu (by grind)).mono (lo' := (1 - 242 * uu) * l) (hi' := (1 + 242 * uu) * l) (by grind) (by grind) (by grind)
  obtain ⟨g1, g2⟩ := lam_of l0' ll' h4
  have hl0 : l ≠ 0 := by grind
  have hl0' : l' ≠ 0 := by grind
  have hρ : Bd (l / l' - 1) (263 * uu) := by
    refine bd_of_mul l0' ?_
    have i : (l / l' - 1) * l' = l - l' := by grind
    rw [i]
    exact ⟨by grind, by grind⟩
  have i1 : P3.scl (l / l') (Rot w x y z (P3.scl (1 / l) a)) = P3.scl (1 / l') (Rot w x y z a) := by
    rw [Rot_scl]
    have j : l / l' * (1 / l) = 1 / l' := by grind
    apply P3.ext' <;> (unfold P3.scl; simp only; rw [<- Rat.mul_assoc, j])
  have h5 : NB ((P3.scl (1 / l') u).sub (P3.scl (l / l') (Rot w x y z (P3.scl (1 / l) a)))) (191 * uu) := by
    rw [i1]
    have i2 : (P3.scl (1 / l') u).sub (P3.scl (1 / l') (Rot w x y z a)) = P3.scl (1 / l') (u.sub (Rot w x y z a)) := by
      generalize Rot w x y z a = t
      generalize 1 / l' = c
      apply P3.ext' <;> (unfold P3.scl P3.sub; grind)
    rw [i2]
    exact scl_NB l0' (hu.mono (by grind))
  refine ⟨hρ, h5, ?_⟩
  have h6 : NB (Rot w x y z (P3.scl (1 / l) a)) (1 + 52 * uu) := by
    have := ((one_len l0 h1).rot (w := w) (x := x) (y := y) (z := z) hN0).2.2
    refine this.mono ?_
    have := hN.2
    grind
  have h7 := h5.add (h6.scl hρ)
  have i3 : ((P3.scl (1 / l') u).sub (P3.scl (l / l') (Rot w x y z (P3.scl (1 / l) a)))).add (P3.scl (l / l' - 1) (Rot w x y z (P3.scl (1 / l) a))) = (P3.scl (1 / l') u).sub (Rot w x y z (P3.scl (1 / l) a)) := by
    generalize Rot w x y z (P3.scl (1 / l) a) = t
    generalize P3.scl (1 / l') u = s
    generalize l / l' = c
    apply P3.ext' <;> (unfold P3.add P3.scl P3.sub; grind)
  rw [i3] at h7
  exact h7.mono (by grind)
theorem rel_two (hN : Bd (Nq w x y z - 1) (32 * uu)) {ρ : Rat} {E F : P3} (hρ : Bd (ρ - 1) (263 * uu)) (hE : NB E (1 + 19 * uu)) (hF : NB (F.sub (P3.scl ρ (Rot w x y z E))) (191 * uu)) (hb : NB b m) (hv : NB (v.sub (Rot w x y z b)) (190 * uu * m)) :
    NB ((F.crs v).sub (P3.scl (ρ * Nq w x y z) (Rot w x y z (E.crs b)))) (382 * uu * m) /\ NB v (1001 / 1000 * m) := by
  have hN0 : 0 <= Nq w x y z := by have := hN.1; grind
  have m0 := hb.1
  have hRb := hb.rot (w := w) (x := x) (y := y) (z := z) hN0
  obtain ⟨n1, n2⟩ := n_mul hN m0
  have hv2 : NB v (1001 / 1000 * m) := (hRb.le hv).mono (by generalize Nq w x y z * m = k at *; grind)
  refine ⟨?_, hv2⟩
  have hRE : NB (Rot w x y z E) (1 + 52 * uu) := (hE.rot (w := w) (x := x) (y := y) (z := z) hN0).mono (by have := hN.2; grind)
  have hρ2 : Bd ρ (1 + 263 * uu) := by obtain ⟨a, b⟩ := hρ; exact ⟨by grind, by grind⟩
  have h1 := (hF.crs hv2).add ((hRE.scl hρ2).crs hv)
  rw [<- crs_diff] at h1
  have i : (P3.scl ρ (Rot w x y z E)).crs (Rot w x y z b) = P3.scl (ρ * Nq w x y z) (Rot w x y z (E.crs b)) := by
    have j : (P3.scl ρ (Rot w x y z E)).crs (Rot w x y z b) = P3.scl ρ ((Rot w x y z E).crs (Rot w x y z b)) := by
      generalize Rot w x y z E = s
      generalize Rot w x y z b = t
      apply P3.ext' <;> (unfold P3.scl P3.crs; grind)
    rw [j, Rot_crs]
    generalize Rot w x y z (E.crs b) = t
    apply P3.ext' <;> (unfold P3.scl; grind)
  rw [i] at h1
  exact h1.mono (by grind)
theorem rel_len (hN : Bd (Nq w x y z - 1) (32 * uu)) {ρ h : Rat} {X X' : P3} (hρ : Bd (ρ - 1) (263 * uu)) (h0 : 0 < h) (hX : Len X ((1 - 840 * uu) * h) ((1 + 840 * uu) * h)) (hm : m <= 68 * h) (hX' : NB (X'.sub (P3.scl (ρ * Nq w x y z) (Rot w x y z X))) (382 * uu * m)) :
    Len X' ((1 - 27200 * uu) * h) ((1 + 27200 * uu) * h) := by
  have hN0 : 0 <= Nq w x y z := by have := hN.1; grind
  have hρ0 : 0 <= ρ := by have := hρ.1; grind
  have h1 := (hX.rot (w := w) (x := x) (y := y) (z := z) hN0).scl (c := ρ * Nq w x y z) (Rat.mul_nonneg hρ0 hN0)
  have hk : Bd (ρ * Nq w x y z * Nq w x y z - 1) (328 * uu) := by
    have a := hN.mul hN
    generalize Nq w x y z = n at *
    obtain ⟨a1, a2⟩ := a
    obtain ⟨b1, b2⟩ := hN
    have c1 : Bd (n * n - 1) (65 * uu) := ⟨by grind, by grind⟩
    have c2 := c1.mul hρ
    obtain ⟨c3, c4⟩ := c1
    obtain ⟨d1, d2⟩ := c2
    obtain ⟨e1, e2⟩ := hρ
    exact ⟨by grind, by grind⟩
  have e1 : ρ * Nq w x y z * (Nq w x y z * ((1 - 840 * uu) * h)) = (1 - 840 * uu) * (ρ * Nq w x y z * Nq w x y z * h) := by grind
  have e2 : ρ * Nq w x y z * (Nq w x y z * ((1 + 840 * uu) * h)) = (1 + 840 * uu) * (ρ * Nq w x y z * Nq w x y z * h) := by grind
  rw [e1, e2] at h1
  have hkh := hk.mul (⟨by grind, Rat.le_refl⟩ : Bd h h)
  generalize ρ * Nq w x y z * Nq w x y z = k at *
  obtain ⟨k1, k2⟩ := hkh
  have h2 := h1.mono (lo' := (1 - 1170 * uu) * h) (hi' := (1 + 1170 * uu) * h) (by grind) (by grind) (by grind)
  exact (h2.near hX' (by grind)).mono (by grind) (by grind) (by grind)
end
end Go.Proofs.YtgngdkjghdohiaaGreat
end
section
namespace Go.Proofs.YtgngdkjghdohiaaGreat
open Go Go.Mach Ieee P3
set_option linter.unusedVariables false

section
variable {w x y z : Rat} {a b u v : P3} {l m h l' m' h' : Rat} {f U1 U2 U3 f' V1 V2 V3 : P3}
theorem sub_add (p q r : P3) : (p.sub q).add (q.sub r) = p.sub r := by
  apply P3.ext' <;> (unfold P3.add P3.sub; grind)
theorem rel_three (hN : Bd (Nq w x y z - 1) (32 * uu)) (H : Ax a b l m h f U1 U2 U3) (K : Ax u v l' m' h' f' V1 V2 V3) (hm' : m' <= 1001 / 1000 * m) (hu : NB (u.sub (Rot w x y z a)) (190 * uu * l)) (hv : NB (v.sub (Rot w x y z b)) (190 * uu * m)) :
    NB (V1.sub (Rot w x y z (P3.scl (1 / l) a))) (459 * uu) /\ NB (V2.sub (Rot w x y z (P3.scl (1 / h) ((P3.scl (1 / l) a).crs b)))) (55200 * uu) /\ NB (V3.sub (Rot w x y z ((P3.scl (1 / l) a).crs (P3.scl (1 / h) ((P3.scl (1 / l) a).crs b))))) (55700 * uu) := by
  have hN0 : 0 <= Nq w x y z := by have := hN.1; grind
  obtain ⟨hρ, hF, hF'⟩ := rel_one hN H.l0 H.ll K.l0 K.ll hu
  have e1 := H.e1
  have e2 := H.e2
  obtain ⟨hX', -⟩ := rel_two hN hρ e1.2.2 hF H.qm hv
  have hL := rel_len hN hρ H.h0 H.x H.mh hX'
  have h0 := H.h0
  have hmh := H.mh
  have hf' := (hL.near K.fm (by grind)).mono (lo' := (1 - 28020 * uu) * h) (hi' := (1 + 28020 * uu) * h) (by grind) (by grind) (by grind)
  obtain ⟨g1, g2⟩ := lam_of K.h0 K.hh hf'
  have h0' := K.h0
  have hh0 : h ≠ 0 := by grind
  have hh0' : h' ≠ 0 := by grind
  have hσ : Bd (h / h' - 1) (28050 * uu) := by
    refine bd_of_mul h0' ?_
    have i : (h / h' - 1) * h' = h - h' := by grind
    rw [i]
    exact ⟨by grind, by grind⟩
  have n1 := K.u1
  have n2 := K.n2
  have n3 := K.n3
  have k2 := K.e2
  have hk : Bd (l / l' * Nq w x y z * (h / h') - 1) (28346 * uu) := by
    generalize l / l' = r at *
    generalize h / h' = s at *
    generalize Nq w x y z = n at *
    have a1 := hρ.mul hN
    obtain ⟨b1, b2⟩ := a1
    obtain ⟨c1, c2⟩ := hρ
    obtain ⟨d1, d2⟩ := hN
    have a2 : Bd (r * n - 1) (2951 / 10 * uu) := ⟨by grind, by grind⟩
    have a3 := a2.mul hσ
    obtain ⟨p1, p2⟩ := a3
    obtain ⟨q1, q2⟩ := a2
    obtain ⟨r1, r2⟩ := hσ
    exact ⟨by grind, by grind⟩
  have hRE2 : NB (Rot w x y z (P3.scl (1 / h) ((P3.scl (1 / l) a).crs b))) (1 + 873 * uu) := (e2.2.2.rot (w := w) (x := x) (y := y) (z := z) hN0).mono (by have := hN.2; grind)
  have hRE1 : NB (Rot w x y z (P3.scl (1 / l) a)) (1 + 52 * uu) := (e1.2.2.rot (w := w) (x := x) (y := y) (z := z) hN0).mono (by have := hN.2; grind)
  have s1 : NB (P3.scl (1 / h') (((P3.scl (1 / l') u).crs v).sub (P3.scl (l / l' * Nq w x y z) (Rot w x y z ((P3.scl (1 / l) a).crs b))))) (25980 * uu) := scl_NB h0' (hX'.mono (by grind))
  have s2 := s1.add (hRE2.scl hk)
  have i2 : (P3.scl (1 / h') (((P3.scl (1 / l') u).crs v).sub (P3.scl (l / l' * Nq w x y z) (Rot w x y z ((P3.scl (1 / l) a).crs b))))).add (P3.scl (l / l' * Nq w x y z * (h / h') - 1) (Rot w x y z (P3.scl (1 / h) ((P3.scl (1 / l) a).crs b)))) = (P3.scl (1 / h') ((P3.scl (1 / l') u).crs v)).sub (Rot w x y z (P3.scl (1 / h) ((P3.scl (1 / l) a).crs b))) := by
    rw [Rot_scl]
    generalize Rot w x y z ((P3.scl (1 / l) a).crs b) = t
    generalize (P3.scl (1 / l') u).crs v = s
    generalize l / l' * Nq w x y z = c
    have j : c * (h / h') * (1 / h) = 1 / h' * c := by grind
    have k : ∀ q : Rat, (c * (h / h') - 1) * (1 / h * q) = 1 / h' * c * q - 1 / h * q := fun q => by
      have : (c * (h / h') - 1) * (1 / h * q) = (c * (h / h') * (1 / h)) * q - 1 / h * q := by grind
      rw [this, j]
    apply P3.ext' <;> (unfold P3.add P3.scl P3.sub; simp only; rw [k]; grind)
  rw [i2] at s2
  have s3 := s2.mono (f := 54340 * uu) (by grind)
  have hF2 := s3
  have hFF2 : NB (P3.scl (1 / h') ((P3.scl (1 / l') u).crs v)) (1 + 840 * uu) := k2.2.2
  have t1 := (hF'.crs hFF2).add (hRE1.crs hF2)
  rw [<- crs_diff, Rot_crs] at t1
  have hRE3 : NB (Rot w x y z ((P3.scl (1 / l) a).crs (P3.scl (1 / h) ((P3.scl (1 / l) a).crs b)))) (1 + 900 * uu) := ((e1.2.2.crs e2.2.2).rot (w := w) (x := x) (y := y) (z := z) hN0).mono (by have := hN.2; grind)
  have t2 := t1.add (hRE3.scl hN)
  have i3 : ∀ p q : P3, (p.sub (P3.scl (Nq w x y z) q)).add (P3.scl (Nq w x y z - 1) q) = p.sub q := fun p q => by
    generalize Nq w x y z = n
    apply P3.ext' <;> (unfold P3.add P3.scl P3.sub; grind)
  rw [i3] at t2
  refine ⟨?_, ?_, ?_⟩
  · have := n1.add hF'
    rw [sub_add] at this
    exact this.mono (by grind)
  · have := n2.add s3
    rw [sub_add] at this
    exact this.mono (by grind)
  · have := n3.add t2
    rw [sub_add] at this
    exact this.mono (by grind)
end
theorem ent_alg {a1 a2 a3 r1 r2 r3 u1 u2 u3 e1 e2 e3 : Rat} (h1 : Bd (a1 - r1) (459 * uu)) (h2 : Bd (a2 - r2) (55200 * uu)) (h3 : Bd (a3 - r3) (55700 * uu)) (g1 : Bd (u1 - e1) (4 * uu)) (g2 : Bd (u2 - e2) (820 * uu)) (g3 : Bd (u3 - e3) (835 * uu))
    (b1 : Bd r1 kap) (b2 : Bd r2 kap) (b3 : Bd r3 kap) (c1 : Bd u1 kap) (c2 : Bd u2 kap) (c3 : Bd u3 kap) : Bd (a1 * u1 + a2 * u2 + a3 * u3 - (r1 * e1 + r2 * e2 + r3 * e3)) (113200 * uu) := by
  have q1 := (h1.mul c1).add (b1.mul g1)
  have q2 := (h2.mul c2).add (b2.mul g2)
  have q3 := (h3.mul c3).add (b3.mul g3)
  have := (q1.add q2).add q3
  have i : (a1 - r1) * u1 + r1 * (u1 - e1) + ((a2 - r2) * u2 + r2 * (u2 - e2)) + ((a3 - r3) * u3 + r3 * (u3 - e3)) = a1 * u1 + a2 * u2 + a3 * u3 - (r1 * e1 + r2 * e2 + r3 * e3) := by grind
  rw [i] at this
  exact this.mono (by grind)
theorem ortho (E F t : P3) : let G := E.crs F
    (P3.add (P3.add (P3.scl (E.dot t) E) (P3.scl (F.dot t) F)) (P3.scl (G.dot t) G)).sub t = P3.add (P3.add (P3.scl ((1 - F.dot F) * E.dot t) E) (P3.scl ((1 - E.dot E) * F.dot t) F)) (P3.add (P3.scl (E.dot E * F.dot F - 1 - E.dot F * E.dot F) t) (P3.scl (E.dot F) (P3.add (P3.scl (F.dot t) E) (P3.scl (E.dot t) F)))) := by
  intro G
  apply P3.ext' <;> (unfold P3.add P3.scl P3.sub P3.dot G P3.crs; grind)
theorem dot_crs (E b : P3) : E.dot (E.crs b) = 0 := by unfold P3.dot P3.crs; grind
theorem dot_scl (E b : P3) (c : Rat) : E.dot (P3.scl c b) = c * E.dot b := by unfold P3.dot P3.scl; grind
theorem dot_near {E : P3} {e : Rat} (h : Len E (1 - e) (1 + e)) (h1 : e <= 1 / 1000) (h0 : 0 <= e) : Bd (E.dot E - 1) (2001 / 1000 * e) := by
  obtain ⟨-, a, -, b⟩ := h
  have := Rat.mul_nonneg h0 (by grind : 0 <= 1 / 1000 - e)
  have := sq_nonneg e
  exact ⟨by grind, by grind⟩
theorem ortho_near {E F t : P3} (d : E.dot F = 0) (hE : Len E (1 - 19 * uu) (1 + 19 * uu)) (hF : Len F (1 - 840 * uu) (1 + 840 * uu)) (ht : NB t 1) :
    NB ((P3.add (P3.add (P3.scl (E.dot t) E) (P3.scl (F.dot t) F)) (P3.scl ((E.crs F).dot t) (E.crs F))).sub t) (3500 * uu) := by
  have h := ortho E F t
  simp only at h
  rw [h, d]
  have n1 := dot_near hE (by grind) (by grind)
  have n2 := dot_near hF (by grind) (by grind)
  have n3 : Bd (E.dot E * F.dot F - 1 - 0 * 0) (1720 * uu) := by
    have a := n1.mul n2
    obtain ⟨a1, a2⟩ := a
    obtain ⟨b1, b2⟩ := n1
    obtain ⟨c1, c2⟩ := n2
    exact ⟨by grind, by grind⟩
  have m1 : Bd (1 - E.dot E) (2001 / 1000 * (19 * uu)) := by obtain ⟨a, b⟩ := n1; exact ⟨by grind, by grind⟩
  have m2 : Bd (1 - F.dot F) (2001 / 1000 * (840 * uu)) := by obtain ⟨a, b⟩ := n2; exact ⟨by grind, by grind⟩
  have q1 := hE.2.2.scl (m2.mul (hE.2.2.dot ht))
  have q2 := hF.2.2.scl (m1.mul (hF.2.2.dot ht))
  have q3 := ht.scl n3
  have q4 : NB (P3.scl 0 (P3.add (P3.scl (F.dot t) E) (P3.scl (E.dot t) F))) 0 := by
    refine ⟨Rat.le_refl, ?_⟩
    have i : P3.scl 0 (P3.add (P3.scl (F.dot t) E) (P3.scl (E.dot t) F)) = ⟨0, 0, 0⟩ := by apply P3.ext' <;> (unfold P3.scl; grind)
    rw [i]; unfold P3.dot; grind
  exact ((q1.add q2).add (q3.add q4)).mono (by grind)
structure Sel (s : P3 -> Rat) : Prop where
  nb : ∀ p e, NB p e -> Bd (s p) e
  sub : ∀ p q, s (p.sub q) = s p - s q
  add : ∀ p q, s (p.add q) = s p + s q
  scl : ∀ c p, s (P3.scl c p) = c * s p
theorem sel_x : Sel P3.x := ⟨fun _ _ h => h.x, fun _ _ => rfl, fun _ _ => rfl, fun _ _ => rfl⟩
theorem sel_y : Sel P3.y := ⟨fun _ _ h => h.y, fun _ _ => rfl, fun _ _ => rfl, fun _ _ => rfl⟩
theorem sel_z : Sel P3.z := ⟨fun _ _ h => h.z, fun _ _ => rfl, fun _ _ => rfl, fun _ _ => rfl⟩
section
variable {w x y z : Rat} {a b u v : P3} {l m h l' m' h' : Rat} {f U1 U2 U3 f' V1 V2 V3 : P3}
theorem entry (hN : Bd (Nq w x y z - 1) (32 * uu)) (H : Ax a b l m h f U1 U2 U3) (K : Ax u v l' m' h' f' V1 V2 V3) (hm' : m' <= 1001 / 1000 * m) (hu : NB (u.sub (Rot w x y z a)) (190 * uu * l)) (hv : NB (v.sub (Rot w x y z b)) (190 * uu * m))
    {s g : P3 -> Rat} (hs : Sel s) (hg : Sel g) (t : P3) (ht : NB t 1) (hgt : ∀ p : P3, p.dot t = g p) : Bd (s V1 * g U1 + s V2 * g U2 + s V3 * g U3 - s (Rot w x y z t)) (117000 * uu) := by
  have hN0 : 0 <= Nq w x y z := by have := hN.1; grind
  obtain ⟨r1, r2, r3⟩ := rel_three hN H K hm' hu hv
  have u1 := H.u1
  have u2 := H.n2
  have u3 := H.n3
  have e1 := H.e1
  have e2 := H.e2
  have hd : (P3.scl (1 / l) a).dot (P3.scl (1 / h) ((P3.scl (1 / l) a).crs b)) = 0 := by rw [dot_scl, dot_crs, Rat.mul_zero]
  generalize P3.scl (1 / h) ((P3.scl (1 / l) a).crs b) = E2 at *
  generalize P3.scl (1 / l) a = E1 at *
  have hE3 := e1.2.2.crs e2.2.2
  have b1 := (e1.2.2.rot (w := w) (x := x) (y := y) (z := z) hN0).mono (f := kap) (by have := hN.2; grind)
  have b2 := (e2.2.2.rot (w := w) (x := x) (y := y) (z := z) hN0).mono (f := kap) (by have := hN.2; grind)
  have b3 := (hE3.rot (w := w) (x := x) (y := y) (z := z) hN0).mono (f := kap) (by have := hN.2; grind)
  have c1 := (e1.2.2.le u1).mono (f := kap) (by grind)
  have c2 := (e2.2.2.le u2).mono (f := kap) (by grind)
  have c3 := (hE3.le u3).mono (f := kap) (by grind)
  have q := ent_alg (a1 := s V1) (a2 := s V2) (a3 := s V3) (u1 := g U1) (u2 := g U2) (u3 := g U3) (by rw [<- hs.sub]; exact hs.nb _ _ r1) (by rw [<- hs.sub]; exact hs.nb _ _ r2) (by rw [<- hs.sub]; exact hs.nb _ _ r3) (by rw [<- hg.sub]; exact hg.nb _ _ u1) (by rw [<- hg.sub]; exact hg.nb _ _ u2) (by rw [<- hg.sub]; exact hg.nb _ _ u3)
    (hs.nb _ _ b1) (hs.nb _ _ b2) (hs.nb _ _ b3) (hg.nb _ _ c1) (hg.nb _ _ c2) (hg.nb _ _ c3)
  have o := (ortho_near hd e1 e2 ht).rot (w := w) (x := x) (y := y) (z := z) hN0
  rw [Rot_sub, Rot_add, Rot_add, Rot_scl, Rot_scl, Rot_scl, hgt, hgt, hgt] at o
  have o2 := hs.nb _ _ o
  rw [hs.sub, hs.add, hs.add, hs.scl, hs.scl, hs.scl] at o2
  obtain ⟨q1, q2⟩ := q
  obtain ⟨o1, o2⟩ := o2
  obtain ⟨n1, n2⟩ := hN
  exact ⟨by grind, by grind⟩
end
end Go.Proofs.YtgngdkjghdohiaaGreat
end
section
namespace Go.Proofs.YtgngdkjghdohiaaGreat
open Go Go.Mach Ieee
set_option linter.unusedVariables false

theorem h_nearB {W : Fl} {P : Rat} (hW : Ap W P (425000 * uu)) (hP : Bd P (405 / 100)) {k : Int} (hk : -2000 <= k) (h1 : 1 / 5 <= pz k) (h5 : pz k <= 5) : Bd (rv (sclF W k) / pz k - P) (425005 * uu) := by
  have hz := pz_pos k
  have hWb := (hW.bd hP).mono (B := 41 / 10) (by grind)
  have hzb : Bd (pz k) (pz k) := by unfold Bd; exact ⟨by grind, Rat.le_refl⟩
  have hb := hWb.mul hzb
  have hB := Bg_ge
  have h := scl_near hW.1 hk (hb.mono (by grind)) _ hb
  have he := eta_le
  have he0 := eta_pos
  have hz0 : pz k ≠ 0 := by grind
  have e1 : (rv (sclF W k) / pz k - rv W) * pz k = rv (sclF W k) - rv W * pz k := by grind
  rw [<- e1] at h
  have h2 : Bd (rv (sclF W k) / pz k - rv W) (42 / 10 * uu) := by
    generalize rv (sclF W k) / pz k - rv W = t at *
    generalize pz k = z at *
    obtain ⟨a1, a2⟩ := h
    clear hb hzb hWb hP hW hB e1
    constructor
    · rcases (Rat.le_total : -(42 / 10 * uu) <= t \/ t <= -(42 / 10 * uu)) with k | k
      · exact k
      · by_cases h0 : t = -(42 / 10 * uu)
        · rw [h0]; exact Rat.le_refl
        · have := Rat.mul_pos (by grind : 0 < -(42 / 10 * uu) - t) hz
          grind
    · rcases (Rat.le_total : t <= 42 / 10 * uu \/ 42 / 10 * uu <= t) with k | k
      · exact k
      · by_cases h0 : t = 42 / 10 * uu
        · rw [h0]; exact Rat.le_refl
        · have := Rat.mul_pos (by grind : 0 < t - 42 / 10 * uu) hz
          grind
  obtain ⟨a1, a2⟩ := h2
  obtain ⟨b1, b2⟩ := hW.2
  generalize rv (sclF W k) / pz k = t at *
  clear h hb hzb hB hWb hW e1
  constructor <;> grind
theorem g_twoB {G W X Y Z w x y z : Rat} (hN : 38 / 10 <= Nq W X Y Z) (hw : Bd (w - W) (425000 * uu)) (hx : Bd (x - X) (425000 * uu)) (hy : Bd (y - Y) (425000 * uu)) (hz : Bd (z - Z) (425000 * uu)) (gw : Bd w G) (gx : Bd x G) (gy : Bd y G) (gz : Bd z G) (h0 : 0 < G) : 9 / 10 <= G := by
  rcases (Rat.le_total : 9 / 10 <= G \/ G <= 9 / 10) with h | h
  · exact h
  · exfalso
    have key : ∀ {t T : Rat}, Bd (t - T) (425000 * uu) -> Bd t G -> T * T <= 91 / 100 * (91 / 100) := by
      intro t T h1 h2
      have h3 : Bd T (91 / 100) := by
        obtain ⟨a, b⟩ := h1
        obtain ⟨c, d⟩ := h2
        exact ⟨by grind, by grind⟩
      exact h3.sq
    have k0 := key hw gw
    have k1 := key hx gx
    have k2 := key hy gy
    have k3 := key hz gz
    unfold Nq at hN
    grind
theorem apart0B {w x y z Q c hw hx hy hz pw px py pz' : Rat} (bw : Bd w kap) (bx : Bd x kap) (bY : Bd y kap) (bz : Bd z kap) (hc : Bd c (6 / 10))
    (gw : Bd (hw - 4 * Q * w) (425005 * uu)) (gx : Bd (hx - 4 * Q * x) (425005 * uu)) (gy : Bd (hy - 4 * Q * y) (425005 * uu)) (gz : Bd (hz - 4 * Q * z) (425005 * uu))
    (dw : Bd (pw - c * hw) (205 / 100 * uu)) (dx : Bd (px - c * hx) (205 / 100 * uu)) (dy : Bd (py - c * hy) (205 / 100 * uu)) (dz : Bd (pz' - c * hz) (205 / 100 * uu)) :
    Bd (w * px + -x * pw + -y * pz' - -z * py) (1030000 * uu) := by
  have a0 := (bw.mul gx).sub (bx.mul gw)
  have a1 := (bz.mul gy).sub (bY.mul gz)
  have a2 := hc.mul (a0.add a1)
  have b0 := (bw.mul dx).sub (bx.mul dw)
  have b1 := (bz.mul dy).sub (bY.mul dz)
  have e : w * px + -x * pw + -y * pz' - -z * py = c * (w * (hx - 4 * Q * x) - x * (hw - 4 * Q * w) + (z * (hy - 4 * Q * y) - y * (hz - 4 * Q * z))) + (w * (px - c * hx) - x * (pw - c * hw)) + (z * (py - c * hy) - y * (pz' - c * hz)) := by grind
  rw [e]
  have h := (a2.add b0).add b1
  exact h.mono (by grind)
end Go.Proofs.YtgngdkjghdohiaaGreat
end
