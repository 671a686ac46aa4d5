/-
  FROM A MATRIX, less near: units; lengths.
  Conditions: units.
-/
import Derived.Test.YtgngdkjghdohiaaGreatL3
import Derived.Test.YtgngdkjghdohiaaGreatN16
import Derived.Test.YtgngdkjghdohiaaGreatFlG
section
namespace Go.Proofs.YtgngdkjghdohiaaGreat
open Go Go.Mach Ieee
set_option linter.unusedVariables false

theorem Ap.to {x : Fl} {a b e d E : Rat} (h : Ap x a e) (g : Bd (a - b) d) (hE : e + d <= E) : Ap x b E := by
  obtain ⟨f, h1, h2⟩ := h
  obtain ⟨g1, g2⟩ := g
  exact ⟨f, by grind, by grind⟩
theorem no_zero2B {W X Y Z : Rat} (h : 38 / 10 <= Nq W X Y Z) {w x y z : Fl} (hw : Ap w W (425000 * uu)) (hx : Ap x X (425000 * uu)) (hy : Ap y Y (425000 * uu)) (hz : Ap z Z (425000 * uu)) : rv w ≠ 0 \/ rv x ≠ 0 \/ rv y ≠ 0 \/ rv z ≠ 0 := by
  rcases Classical.em (rv w = 0) with e0 | e0
  · rcases Classical.em (rv x = 0) with e1 | e1
    · rcases Classical.em (rv y = 0) with e2 | e2
      · rcases Classical.em (rv z = 0) with e3 | e3
        · exfalso
          have g0 := hw.2
          have g1 := hx.2
          have g2 := hy.2
          have g3 := hz.2
          rw [e0] at g0
          rw [e1] at g1
          rw [e2] at g2
          rw [e3] at g3
          have k0 := g0.sq
          have k1 := g1.sq
          have k2 := g2.sq
          have k3 := g3.sq
          have i : ∀ t : Rat, (0 - t) * (0 - t) = t * t := fun t => by grind
          rw [i] at k0 k1 k2 k3
          unfold Nq at h
          generalize W * W = a at *
          generalize X * X = b at *
          generalize Y * Y = c at *
          generalize Z * Z = d at *
          clear g0 g1 g2 g3 hw hx hy hz
          grind
        · exact .inr (.inr (.inr e3))
      · exact .inr (.inr (.inl e2))
    · exact .inr (.inl e1)
  · exact .inl e0
theorem nq4 {Q w x y z : Rat} (hQ : 6 / 25 <= Q * Q) (hN : Bd (Nq w x y z - 1) (1 / 1000)) : 38 / 10 <= Nq (4 * Q * w) (4 * Q * x) (4 * Q * y) (4 * Q * z) := by
  have e : Nq (4 * Q * w) (4 * Q * x) (4 * Q * y) (4 * Q * z) = 16 * (Q * Q) * Nq w x y z := by unfold Nq; grind
  rw [e]
  have := Rat.mul_nonneg (by grind : 0 <= Q * Q - 6 / 25) (by have := hN.1; grind : 0 <= Nq w x y z)
  have h1 := hN.1
  generalize Q * Q = q at *
  generalize Nq w x y z = n at *
  grind
theorem unit_of_kB {N : Nat} (hN : 1000 <= N) {K0 K1 K2 K3 : Fl} {Q w x y z : Rat} (w0 : FW K0) (w1 : FW K1) (w2 : FW K2) (w3 : FW K3) (hU : Bd (Nq w x y z - 1) (1 / 1000)) (hQ : 6 / 25 <= Q * Q) (hQ2 : Bd Q kap)
    (h0 : Ap K0 (4 * Q * w) (425000 * uu)) (h1 : Ap K1 (4 * Q * x) (425000 * uu)) (h2 : Ap K2 (4 * Q * y) (425000 * uu)) (h3 : Ap K3 (4 * Q * z) (425000 * uu)) :
    ∃ j0 j1 j2 j3 : Fl, (FW j0 /\ FW j1 /\ FW j2 /\ FW j3) /\ U4 j0 j1 j2 j3 /\ (∀ κ, jq N K0 K1 K2 K3 κ = κ j0 j1 j2 j3 0) /\ ∃ c hw hx hy hz : Rat, Bd c (6 / 10) /\
      (Bd (hw - 4 * Q * w) (425005 * uu) /\ Bd (hx - 4 * Q * x) (425005 * uu) /\ Bd (hy - 4 * Q * y) (425005 * uu) /\ Bd (hz - 4 * Q * z) (425005 * uu)) /\
      (Bd (rv j0 - c * hw) (205 / 100 * uu) /\ Bd (rv j1 - c * hx) (205 / 100 * uu) /\ Bd (rv j2 - c * hy) (205 / 100 * uu) /\ Bd (rv j3 - c * hz) (205 / 100 * uu)) := by
  have hn4 := nq4 hQ hU
  have hn := no_zero2B hn4 h0 h1 h2 h3
  have hall := allFin4' h0.1 h1.1 h2.1 h3.1
  obtain ⟨bw, bx, bY, bz⟩ := Un_bd hU
  have p4 : ∀ {t : Rat}, Bd t kap -> Bd (4 * Q * t) (405 / 100) := by
    intro t ht
    have a : Bd (4 : Rat) 4 := by unfold Bd; grind
    exact ((a.mul hQ2).mul ht).mono (by grind)
  obtain ⟨k, g, G, hk, hq, hFW, hU4, hg0, t0, t1, t2, t3, tN, G0, G1, G2, g0, g1, g2, g3, gj⟩ := unit_more hN w0 w1 w2 w3 hall hn
  have hGl := g_twoB hn4 h0.2 h1.2 h2.2 h3.2 g0 g1 g2 g3 G0
  have b0 := (h0.bd (p4 bw)).mono (B := 41 / 10) (by grind)
  have b1 := (h1.bd (p4 bx)).mono (B := 41 / 10) (by grind)
  have b2 := (h2.bd (p4 bY)).mono (B := 41 / 10) (by grind)
  have b3 := (h3.bd (p4 bz)).mono (B := 41 / 10) (by grind)
  have hGu : G <= 41 / 10 := by
    clear hn4 hn hall hq hFW hU4 t0 t1 t2 t3 tN h0 h1 h2 h3 hU hQ
    obtain ⟨w0a, w0b⟩ := b0
    obtain ⟨w1a, w1b⟩ := b1
    obtain ⟨w2a, w2b⟩ := b2
    obtain ⟨w3a, w3b⟩ := b3
    rcases gj with h | h | h | h | h | h | h | h <;> grind
  obtain ⟨z1, z5⟩ := z_bd2 G1 G2 hGl hGu (pz_pos k)
  have hz0 : pz k ≠ 0 := by have := pz_pos k; grind
  have hgg : rv g ≠ 0 := by intro h; rw [h] at hg0; exact absurd hg0 (by decide)
  have q0 := h_nearB h0 (p4 bw) hk z1 z5
  have q1 := h_nearB h1 (p4 bx) hk z1 z5
  have q2 := h_nearB h2 (p4 bY) hk z1 z5
  have q3 := h_nearB h3 (p4 bz) hk z1 z5
  have c0 : pz k / rv g * (rv (sclF K0 k) / pz k) = rv (sclF K0 k) / rv g := by grind
  have c1 : pz k / rv g * (rv (sclF K1 k) / pz k) = rv (sclF K1 k) / rv g := by grind
  have c2 : pz k / rv g * (rv (sclF K2 k) / pz k) = rv (sclF K2 k) / rv g := by grind
  have c3 : pz k / rv g * (rv (sclF K3 k) / pz k) = rv (sclF K3 k) / rv g := by grind
  have hNh : 3 <= Nq (rv (sclF K0 k) / pz k) (rv (sclF K1 k) / pz k) (rv (sclF K2 k) / pz k) (rv (sclF K3 k) / pz k) := by
    have := Nq_off (p4 bw) (p4 bx) (p4 bY) (p4 bz) q0 q1 q2 q3
    have := this.1
    generalize Nq (4 * Q * w) (4 * Q * x) (4 * Q * y) (4 * Q * z) = n at *
    generalize Nq (rv (sclF K0 k) / pz k) (rv (sclF K1 k) / pz k) (rv (sclF K2 k) / pz k) (rv (sclF K3 k) / pz k) = m at *
    grind
  have hcN : pz k / rv g * (pz k / rv g) * Nq (rv (sclF K0 k) / pz k) (rv (sclF K1 k) / pz k) (rv (sclF K2 k) / pz k) (rv (sclF K3 k) / pz k) = Nq (rv (sclF K0 k) / rv g) (rv (sclF K1 k) / rv g) (rv (sclF K2 k) / rv g) (rv (sclF K3 k) / rv g) := by
    rw [<- c0, <- c1, <- c2, <- c3]
    generalize pz k / rv g = c
    generalize rv (sclF K0 k) / pz k = a0
    generalize rv (sclF K1 k) / pz k = a1
    generalize rv (sclF K2 k) / pz k = a2
    generalize rv (sclF K3 k) / pz k = a3
    unfold Nq; grind
  refine ⟨_, _, _, _, hFW, hU4, fun κ => ?_, pz k / rv g, rv (sclF K0 k) / pz k, rv (sclF K1 k) / pz k, rv (sclF K2 k) / pz k, rv (sclF K3 k) / pz k, c_small hcN tN hNh, ⟨q0, q1, q2, q3⟩, ?_⟩
  · unfold jq
    rw [hall, Bool.not_true, cond_false, hq]
  · rw [c0, c1, c2, c3]; exact ⟨t0.1, t1.1, t2.1, t3.1⟩
theorem one3 {a b c : Rat} (h0 : 0 <= a) (h1 : 0 <= b) (h2 : 0 <= c) (h : 1 <= a \/ 1 <= b \/ 1 <= c) : 1 <= a + b + c := by
  rcases h with h | h | h <;> grind
theorem le_amt {r G e : Rat} (h : r = G \/ r = -G) (hb : Bd r e) : G <= e := by
  obtain ⟨a, b⟩ := hb
  rcases h with h | h <;> grind
theorem length_smallB {N : Nat} (hN : 1000 <= N) {X Y Z : Fl} (fX : finF X = true) (fY : finF Y = true) (fZ : finF Z = true) (wX : FW X) (wY : FW Y) (wZ : FW Z) (bX : Bd (rv X) (1030100 * uu)) (bY : Bd (rv Y) (1030100 * uu)) (bZ : Bd (rv Z) (1030100 * uu)) :
    ∃ d, finF d = true /\ rv d <= 6300000 * uu /\ ∀ κ, sZ54 N [X, Y, Z] κ = κ d 0 := by
  have hl : [X, Y, Z].length <= 48 := le3 X Y Z
  have hS : Small N [X, Y, Z].length := small_of hN hl
  have d1 : decide ((([X, Y, Z].length : Nat) : Int) > 48) = false := dec_false (by simp)
  have n0 : ((0 : Int) != 0) = false := by decide
  have ha := allFin3x fX fY fZ
  have hf := finW_of (FW3 wX wY wZ) ha
  obtain ⟨hm, hmw⟩ := most_fin hf [X, Y, Z].length (Nat.le_refl _)
  have q1 : ∀ κ, sZ54 N [X, Y, Z] κ = sZ85 N [X, Y, Z] (fun xr => cond (!finF xr) (κ (some 0) 5) (κ xr 0)) := by
    intro κ
    unfold sZ54 GZ54 sZ117 GZ117
    rw [d1, cond_false, law_Finite [X, Y, Z] hS, ha]
    dsimp only
    rw [Bool.not_true, cond_false, n0, cond_false]
    simp only [sZ92, GZ92, fin_eq]
  cases h0 : feq (mostF [X, Y, Z] [X, Y, Z].length) (some 0) with
  | true =>
    refine ⟨some 0, rv_zero.1, by rw [rv_zero.2]; grind, fun κ => ?_⟩
    rw [q1]
    unfold sZ85 GZ85
    rw [lawZ100 hN hl, h0, cond_true]
    rfl
  | false =>
    obtain ⟨fr, e, he, he1, he2, hfin, j, hj, hge⟩ := scl_rat (N := N) hf h0
    obtain ⟨fr', e', he', -, -, G, G0, G1, G2, G3, j', hj', hge'⟩ := scl_great (N := N) hf h0
    have hee := frexp_same he he'
    subst hee
    obtain ⟨f0, b0⟩ := hfin 0 (Nat.le_of_ble_eq_true rfl)
    obtain ⟨f1, b1⟩ := hfin 1 (Nat.le_of_ble_eq_true rfl)
    obtain ⟨f2, b2⟩ := hfin 2 (Nat.le_of_ble_eq_true rfl)
    have f0 : finF (sclF X (1 - e)) = true := f0
    have f1 : finF (sclF Y (1 - e)) = true := f1
    have f2 : finF (sclF Z (1 - e)) = true := f2
    have b0 : Bd (rv (sclF X (1 - e))) 3 := b0
    have b1 : Bd (rv (sclF Y (1 - e))) 3 := b1
    have b2 : Bd (rv (sclF Z (1 - e))) 3 := b2
    have z0 := sq_nonneg (rv (sclF X (1 - e)))
    have z1 := sq_nonneg (rv (sclF Y (1 - e)))
    have z2 := sq_nonneg (rv (sclF Z (1 - e)))
    have r0 := b0.sq
    have r1 := b1.sq
    have r2 := b2.sq
    have hone : 1 <= rv (sclF X (1 - e)) * rv (sclF X (1 - e)) + rv (sclF Y (1 - e)) * rv (sclF Y (1 - e)) + rv (sclF Z (1 - e)) * rv (sclF Z (1 - e)) := by
      match j, hj, hge with
      | 0, _, h =>
        have h : 1 <= rv (sclF X (1 - e)) * rv (sclF X (1 - e)) := h
        exact one3 z0 z1 z2 (.inl h)
      | 1, _, h =>
        have h : 1 <= rv (sclF Y (1 - e)) * rv (sclF Y (1 - e)) := h
        exact one3 z0 z1 z2 (.inr (.inl h))
      | 2, _, h =>
        have h : 1 <= rv (sclF Z (1 - e)) * rv (sclF Z (1 - e)) := h
        exact one3 z0 z1 z2 (.inr (.inr h))
    have hG : G <= 1030100 * uu := by
      match j', hj', hge' with
      | 0, _, h =>
        have h : rv X = G \/ rv X = -G := h
        exact le_amt h bX
      | 1, _, h =>
        have h : rv Y = G \/ rv Y = -G := h
        exact le_amt h bY
      | 2, _, h =>
        have h : rv Z = G \/ rv Z = -G := h
        exact le_amt h bZ
    obtain ⟨n1, n2⟩ := len3_near f0 f1 f2 b0 b1 b2
    have hsum : sumSq (scl [X, Y, Z] (0 - (e - 1))) [X, Y, Z].length = fadd (fadd (fadd (some 0) (fmul (sclF X (1 - e)) (sclF X (1 - e)))) (fmul (sclF Y (1 - e)) (sclF Y (1 - e)))) (fmul (sclF Z (1 - e)) (sclF Z (1 - e))) := by
      rw [show (0 - (e - 1) : Int) = 1 - e by omega]; rfl
    have hg : NN (fsqrt (sumSq (scl [X, Y, Z] (0 - (e - 1))) [X, Y, Z].length)) := NN_fsqrt (NN_sumSq hf _ _ (Nat.le_refl _))
    have s1 := fun κ => ldexp_NN N hg (e := e - 1) (by omega) (by omega) κ
    have r1' : ∀ κ, sZ54 N [X, Y, Z] κ = (fun xr => cond (!finF xr) (κ (some 0) 5) (κ xr 0)) (sclF (fsqrt (sumSq (scl [X, Y, Z] (0 - (e - 1))) [X, Y, Z].length)) (e - 1)) := by
      intro κ
      rw [q1]
      unfold sZ85 GZ85
      rw [lawZ100 hN hl, h0, cond_false, he]
      dsimp only
      rw [and_tr (fits_ok (by omega) (by omega)), Bool.not_true, cond_false, lawZ86 hN hl hf (by omega) (by omega), s1]
    rw [hsum] at r1'
    generalize fadd (fadd (fadd (some 0) (fmul (sclF X (1 - e)) (sclF X (1 - e)))) (fmul (sclF Y (1 - e)) (sclF Y (1 - e)))) (fmul (sclF Z (1 - e)) (sclF Z (1 - e))) = n at *
    have hn0 : 0 < rv n := by
      obtain ⟨a, b⟩ := n2
      generalize rv (sclF X (1 - e)) * rv (sclF X (1 - e)) + rv (sclF Y (1 - e)) * rv (sclF Y (1 - e)) + rv (sclF Z (1 - e)) * rv (sclF Z (1 - e)) = s at *
      grind
    obtain ⟨s2, s3, s4⟩ := sqrt_near n1 hn0
    have h6 := root_six s3 s4 n2 (by grind) (by grind)
    have hpi : pz (1 - e) * pz (e - 1) = 1 := pz_inv (by omega) (by omega) (by omega)
    have hpe : pz (e - 1) <= G := by
      have a := Rat.mul_nonneg (by grind : 0 <= G * pz (1 - e) - 1) (Rat.le_of_lt (pz_pos (e - 1)))
      have b : G * pz (1 - e) * pz (e - 1) = G := by rw [Rat.mul_assoc, hpi, Rat.mul_one]
      grind
    have hpp := pz_pos (e - 1)
    have hb6 : Bd (rv (fsqrt n)) 6 := ⟨by grind, h6⟩
    have hbz : Bd (pz (e - 1)) (1030100 * uu) := ⟨by grind, by grind⟩
    have hm6 := hb6.mul hbz
    have hB := Bg_ge
    have hbig : 6 * (1030100 * uu) <= Bg := by grind
    have hfin := scl_fin s2 (k := e - 1) (by omega) (hm6.mono hbig)
    have hnr := scl_near s2 (k := e - 1) (by omega) (hm6.mono hbig) _ hm6
    refine ⟨_, hfin, ?_, fun κ => by rw [r1']; dsimp only; rw [hfin]; rfl⟩
    have he' := eta_le
    obtain ⟨a, b⟩ := hnr
    obtain ⟨c, d⟩ := hm6
    grind
end Go.Proofs.YtgngdkjghdohiaaGreat
end
section
namespace Go.Proofs.YtgngdkjghdohiaaGreat
open Go Go.Mach Ieee
set_option linter.unusedVariables false

theorem fmm_rv {x y : Fl} (hx : finF x = true) (hy : finF y = true) : finF (fmm true x y) = true /\ rv x <= rv (fmm true x y) /\ rv y <= rv (fmm true x y) /\ (rv (fmm true x y) = rv x \/ rv (fmm true x y) = rv y) := by
  obtain ⟨h1, h2, h3⟩ := fmm_vl hx hy
  refine ⟨h1, rv_le.1 (by omega), rv_le.1 (by omega), ?_⟩
  rcases h3 with h | h
  · left; rw [h]
  · right; rw [h]
theorem four_max {t a b c : Fl} (ft : finF t = true) (fa : finF a = true) (fb : finF b = true) (fc : finF c = true) : finF (fmm true (fmm true (fmm true t a) b) c) = true /\ rv t <= rv (fmm true (fmm true (fmm true t a) b) c) /\ rv a <= rv (fmm true (fmm true (fmm true t a) b) c) /\ rv b <= rv (fmm true (fmm true (fmm true t a) b) c) /\ rv c <= rv (fmm true (fmm true (fmm true t a) b) c) /\
    (rv (fmm true (fmm true (fmm true t a) b) c) = rv t \/ rv (fmm true (fmm true (fmm true t a) b) c) = rv a \/ rv (fmm true (fmm true (fmm true t a) b) c) = rv b \/ rv (fmm true (fmm true (fmm true t a) b) c) = rv c) := by
  obtain ⟨f1, l1, l2, e1⟩ := fmm_rv ft fa
  obtain ⟨f2, l3, l4, e2⟩ := fmm_rv f1 fb
  obtain ⟨f3, l5, l6, e3⟩ := fmm_rv f2 fc
  refine ⟨f3, by grind, by grind, by grind, by grind, ?_⟩
  rcases e3 with e3 | e3
  · rcases e2 with e2 | e2
    · rcases e1 with e1 | e1
      · left; rw [e3, e2, e1]
      · right; left; rw [e3, e2, e1]
    · right; right; left; rw [e3, e2]
  · right; right; right; exact e3
def Found (N : Nat) (w x y z : Fl) (f : K4 -> Bool) : Prop := ∃ j0 j1 j2 j3 : Fl, (FW j0 /\ FW j1 /\ FW j2 /\ FW j3) /\ U4 j0 j1 j2 j3 /\ (∀ κ, f κ = κ j0 j1 j2 j3 0) /\ ∃ Q c hw hx hy hz : Rat, Bd c (6 / 10) /\
      (Bd (hw - 4 * Q * rv w) (425005 * uu) /\ Bd (hx - 4 * Q * rv x) (425005 * uu) /\ Bd (hy - 4 * Q * rv y) (425005 * uu) /\ Bd (hz - 4 * Q * rv z) (425005 * uu)) /\
      (Bd (rv j0 - c * hw) (205 / 100 * uu) /\ Bd (rv j1 - c * hx) (205 / 100 * uu) /\ Bd (rv j2 - c * hy) (205 / 100 * uu) /\ Bd (rv j3 - c * hz) (205 / 100 * uu))
theorem found_of {N : Nat} (hN : 1000 <= N) {w x y z K0 K1 K2 K3 : Fl} {Q : Rat} (w0 : FW K0) (w1 : FW K1) (w2 : FW K2) (w3 : FW K3) (hU : Bd (Nq (rv w) (rv x) (rv y) (rv z) - 1) (1 / 1000)) (hQ : 6 / 25 <= Q * Q) (hQ2 : Bd Q kap)
    (h0 : Ap K0 (4 * Q * rv w) (425000 * uu)) (h1 : Ap K1 (4 * Q * rv x) (425000 * uu)) (h2 : Ap K2 (4 * Q * rv y) (425000 * uu)) (h3 : Ap K3 (4 * Q * rv z) (425000 * uu)) {f : K4 -> Bool} (hf : ∀ κ, f κ = jq N K0 K1 K2 K3 κ) : Found N w x y z f := by
  obtain ⟨j0, j1, j2, j3, a, b, c, cc, hw, hx, hy, hz, d, e, g⟩ := unit_of_kB hN w0 w1 w2 w3 hU hQ hQ2 h0 h1 h2 h3
  exact ⟨j0, j1, j2, j3, a, b, fun κ => by rw [hf, c], Q, cc, hw, hx, hy, hz, d, e, g⟩
theorem from_near {N : Nat} (hN : 1000 <= N) {w x y z m0 m1 m2 m3 m4 m5 m6 m7 m8 : Fl} (h : allFin [w, x, y, z] = true) (hU : Un (rv w) (rv x) (rv y) (rv z))
    (d0 : Ap m0 (ra (rv w) (rv x) (rv y) (rv z)) (118000 * uu) /\ Bd (ra (rv w) (rv x) (rv y) (rv z)) kap) (d1 : Ap m1 (rb (rv w) (rv x) (rv y) (rv z)) (118000 * uu) /\ Bd (rb (rv w) (rv x) (rv y) (rv z)) kap) (d2 : Ap m2 (rc (rv w) (rv x) (rv y) (rv z)) (118000 * uu) /\ Bd (rc (rv w) (rv x) (rv y) (rv z)) kap)
    (d3 : Ap m3 (rc (rv w) (rv y) (rv z) (rv x)) (118000 * uu) /\ Bd (rc (rv w) (rv y) (rv z) (rv x)) kap) (d4 : Ap m4 (ra (rv w) (rv y) (rv z) (rv x)) (118000 * uu) /\ Bd (ra (rv w) (rv y) (rv z) (rv x)) kap) (d5 : Ap m5 (rb (rv w) (rv y) (rv z) (rv x)) (118000 * uu) /\ Bd (rb (rv w) (rv y) (rv z) (rv x)) kap)
    (d6 : Ap m6 (rb (rv w) (rv z) (rv x) (rv y)) (118000 * uu) /\ Bd (rb (rv w) (rv z) (rv x) (rv y)) kap) (d7 : Ap m7 (rc (rv w) (rv z) (rv x) (rv y)) (118000 * uu) /\ Bd (rc (rv w) (rv z) (rv x) (rv y)) kap) (d8 : Ap m8 (ra (rv w) (rv z) (rv x) (rv y)) (118000 * uu) /\ Bd (ra (rv w) (rv z) (rv x) (rv y)) kap) :
    Found N w x y z (sZ75 N 3 3 [m0, m1, m2, m3, m4, m5, m6, m7, m8]) := by
  obtain ⟨fw, fx, fy, fz⟩ := fin4 h
  obtain ⟨bw, bx, bY, bz⟩ := Un_bd hU.n
  have hall : allFin [m0, m1, m2, m3, m4, m5, m6, m7, m8] = true := by
    refine allN_iff.2 fun i hi => ?_
    have hi : i < 9 := hi
    match i, hi with
    | 0, _ => exact d0.1.1
    | 1, _ => exact d1.1.1
    | 2, _ => exact d2.1.1
    | 3, _ => exact d3.1.1
    | 4, _ => exact d4.1.1
    | 5, _ => exact d5.1.1
    | 6, _ => exact d6.1.1
    | 7, _ => exact d7.1.1
    | 8, _ => exact d8.1.1
  have hfq := fun κ => from_q hN hall rfl κ
  have hone : Ap (some 4607182418800017408) 1 0 /\ Bd (1 : Rat) 1 := ⟨one_Ap, by unfold Bd; grind⟩
  have t1 := add_st (E := 236010 * uu) (D := 3) d0 d4 (by grind) (by grind) (by grind)
  have t := add_st (E := 354020 * uu) (D := 5) t1 d8 (by grind) (by grind) (by grind)
  have p1 := add_st (E := 354030 * uu) (D := 20) hone t (by grind) (by grind) (by grind)
  have s75 := sub_st (E := 236010 * uu) (D := 20) d7 d5 (by grind) (by grind) (by grind)
  have s26 := sub_st (E := 236010 * uu) (D := 20) d2 d6 (by grind) (by grind) (by grind)
  have s31 := sub_st (E := 236010 * uu) (D := 20) d3 d1 (by grind) (by grind) (by grind)
  have a13 := add_st (E := 236010 * uu) (D := 20) d1 d3 (by grind) (by grind) (by grind)
  have a26 := add_st (E := 236010 * uu) (D := 20) d2 d6 (by grind) (by grind) (by grind)
  have a57 := add_st (E := 236010 * uu) (D := 20) d5 d7 (by grind) (by grind) (by grind)
  have ka1 := add_st (E := 118010 * uu) (D := 3) hone d0 (by grind) (by grind) (by grind)
  have ka2 := sub_st (E := 236020 * uu) (D := 5) ka1 d4 (by grind) (by grind) (by grind)
  have ka := sub_st (E := 354030 * uu) (D := 20) ka2 d8 (by grind) (by grind) (by grind)
  have kb1 := sub_st (E := 118010 * uu) (D := 3) hone d0 (by grind) (by grind) (by grind)
  have kb2 := add_st (E := 236020 * uu) (D := 5) kb1 d4 (by grind) (by grind) (by grind)
  have kb := sub_st (E := 354030 * uu) (D := 20) kb2 d8 (by grind) (by grind) (by grind)
  have kc2 := sub_st (E := 236020 * uu) (D := 5) kb1 d4 (by grind) (by grind) (by grind)
  have kc := add_st (E := 354030 * uu) (D := 20) kc2 d8 (by grind) (by grind) (by grind)
  obtain ⟨fm, l0, l1, l2, l3, hm⟩ := four_max t.1.1 d0.1.1 d4.1.1 d8.1.1
  have hN1 := hU
  unfold Un at hN1
  have r0 := t.1.2
  have r1 := d0.1.2
  have r2 := d4.1.2
  have r3 := d8.1.2
  have hft : (!finF (fadd (fadd m0 m4) m8)) = false := by rw [t.1.1]; rfl
  have e0 := feq_rv fm t.1.1
  have e1 := feq_rv fm d0.1.1
  have e2 := feq_rv fm d4.1.1
  generalize fadd (fadd m0 m4) m8 = tt at *
  generalize hmm : fmm true (fmm true (fmm true tt m0) m4) m8 = mm at *
  have sel : ∀ {q a b c : Rat}, Bd (Nq q a b c - 1) (1 / 281474976710656) -> a * a <= q * q + 1 / 1000 -> b * b <= q * q + 1 / 1000 -> c * c <= q * q + 1 / 1000 -> 6 / 25 <= q * q := fun hn ha hb hc => quarter (hn.mono (by grind)) ha hb hc
  obtain ⟨r0a, r0b⟩ := r0
  obtain ⟨r1a, r1b⟩ := r1
  obtain ⟨r2a, r2b⟩ := r2
  obtain ⟨r3a, r3b⟩ := r3
  have hNa := hN1.1
  have hNb := hN1.2
  cases c0 : feq mm tt with
  | true =>
    have g0 := e0.1 c0
    have hQ : 6 / 25 <= rv w * rv w := by
      refine sel (a := rv x) (b := rv y) (c := rv z) hN1 ?_ ?_ ?_ <;> (unfold Nq at hNa hNb; unfold ra at r0a r0b r1a r1b r2a r2b r3a r3b; grind)
    refine found_of hN (FW_fadd _ _) (FW_fsub _ _) (FW_fsub _ _) (FW_fsub _ _) hU.n hQ bw (p1.1.to (d := 128 * uu) ?_ (by grind)) (s75.1.to (d := 0) ?_ (by grind)) (s26.1.to (d := 0) ?_ (by grind)) (s31.1.to (d := 0) ?_ (by grind)) (fun κ => ?_)
    · unfold Nq at hNa hNb; unfold ra; exact ⟨by grind, by grind⟩
    · unfold Nq at hNa hNb; exact ⟨by simp only [ra, rb, rc]; grind, by simp only [ra, rb, rc]; grind⟩
    · unfold Nq at hNa hNb; exact ⟨by simp only [ra, rb, rc]; grind, by simp only [ra, rb, rc]; grind⟩
    · unfold Nq at hNa hNb; exact ⟨by simp only [ra, rb, rc]; grind, by simp only [ra, rb, rc]; grind⟩
    · rw [hfq, hft, cond_false, c0, cond_true]
  | false =>
  cases c1 : feq mm m0 with
  | true =>
    have g0 := e1.1 c1
    have hN2 : Bd (Nq (rv x) (rv w) (rv y) (rv z) - 1) (1 / 281474976710656) := by
      have : Nq (rv x) (rv w) (rv y) (rv z) = Nq (rv w) (rv x) (rv y) (rv z) := by unfold Nq; grind
      rw [this]; exact hN1
    have hQ : 6 / 25 <= rv x * rv x := by
      refine sel (a := rv w) (b := rv y) (c := rv z) hN2 ?_ ?_ ?_ <;> (unfold Nq at hNa hNb; unfold ra at r0a r0b r1a r1b r2a r2b r3a r3b; grind)
    refine found_of hN (FW_fsub _ _) (FW_fsub _ _) (FW_fadd _ _) (FW_fadd _ _) hU.n hQ bx (s75.1.to (d := 0) ?_ (by grind)) (ka.1.to (d := 33 * uu) ?_ (by grind)) (a13.1.to (d := 0) ?_ (by grind)) (a26.1.to (d := 0) ?_ (by grind)) (fun κ => ?_)
    · unfold Nq at hNa hNb; exact ⟨by simp only [ra, rb, rc]; grind, by simp only [ra, rb, rc]; grind⟩
    · unfold Nq at hNa hNb; exact ⟨by simp only [ra, rb, rc]; grind, by simp only [ra, rb, rc]; grind⟩
    · unfold Nq at hNa hNb; exact ⟨by simp only [ra, rb, rc]; grind, by simp only [ra, rb, rc]; grind⟩
    · unfold Nq at hNa hNb; exact ⟨by simp only [ra, rb, rc]; grind, by simp only [ra, rb, rc]; grind⟩
    · rw [hfq, hft, cond_false, c0, cond_false, c1, cond_true]
  | false =>
  cases c2 : feq mm m4 with
  | true =>
    have g0 := e2.1 c2
    have hN2 : Bd (Nq (rv y) (rv w) (rv x) (rv z) - 1) (1 / 281474976710656) := by
      have : Nq (rv y) (rv w) (rv x) (rv z) = Nq (rv w) (rv x) (rv y) (rv z) := by unfold Nq; grind
      rw [this]; exact hN1
    have hQ : 6 / 25 <= rv y * rv y := by
      refine sel (a := rv w) (b := rv x) (c := rv z) hN2 ?_ ?_ ?_ <;> (unfold Nq at hNa hNb; unfold ra at r0a r0b r1a r1b r2a r2b r3a r3b; grind)
    refine found_of hN (FW_fsub _ _) (FW_fadd _ _) (FW_fsub _ _) (FW_fadd _ _) hU.n hQ bY (s26.1.to (d := 0) ?_ (by grind)) (a13.1.to (d := 0) ?_ (by grind)) (kb.1.to (d := 33 * uu) ?_ (by grind)) (a57.1.to (d := 0) ?_ (by grind)) (fun κ => ?_)
    · unfold Nq at hNa hNb; exact ⟨by simp only [ra, rb, rc]; grind, by simp only [ra, rb, rc]; grind⟩
    · unfold Nq at hNa hNb; exact ⟨by simp only [ra, rb, rc]; grind, by simp only [ra, rb, rc]; grind⟩
    · unfold Nq at hNa hNb; exact ⟨by simp only [ra, rb, rc]; grind, by simp only [ra, rb, rc]; grind⟩
    · unfold Nq at hNa hNb; exact ⟨by simp only [ra, rb, rc]; grind, by simp only [ra, rb, rc]; grind⟩
    · rw [hfq, hft, cond_false, c0, cond_false, c1, cond_false, c2, cond_true]
  | false =>
    have g0 : rv mm = rv m8 := by
      rcases hm with h' | h' | h' | h'
      · rw [e0.2 h'] at c0; cases c0
      · rw [e1.2 h'] at c1; cases c1
      · rw [e2.2 h'] at c2; cases c2
      · exact h'
    have hN2 : Bd (Nq (rv z) (rv w) (rv x) (rv y) - 1) (1 / 281474976710656) := by
      have : Nq (rv z) (rv w) (rv x) (rv y) = Nq (rv w) (rv x) (rv y) (rv z) := by unfold Nq; grind
      rw [this]; exact hN1
    have hQ : 6 / 25 <= rv z * rv z := by
      refine sel (a := rv w) (b := rv x) (c := rv y) hN2 ?_ ?_ ?_ <;> (unfold Nq at hNa hNb; unfold ra at r0a r0b r1a r1b r2a r2b r3a r3b; grind)
    refine found_of hN (FW_fsub _ _) (FW_fadd _ _) (FW_fadd _ _) (FW_fadd _ _) hU.n hQ bz (s31.1.to (d := 0) ?_ (by grind)) (a26.1.to (d := 0) ?_ (by grind)) (a57.1.to (d := 0) ?_ (by grind)) (kc.1.to (d := 33 * uu) ?_ (by grind)) (fun κ => ?_)
    · unfold Nq at hNa hNb; exact ⟨by simp only [ra, rb, rc]; grind, by simp only [ra, rb, rc]; grind⟩
    · unfold Nq at hNa hNb; exact ⟨by simp only [ra, rb, rc]; grind, by simp only [ra, rb, rc]; grind⟩
    · unfold Nq at hNa hNb; exact ⟨by simp only [ra, rb, rc]; grind, by simp only [ra, rb, rc]; grind⟩
    · unfold Nq at hNa hNb; exact ⟨by simp only [ra, rb, rc]; grind, by simp only [ra, rb, rc]; grind⟩
    · rw [hfq, hft, cond_false, c0, cond_false, c1, cond_false, c2, cond_false]
end Go.Proofs.YtgngdkjghdohiaaGreat
end
section
namespace Go.Proofs.YtgngdkjghdohiaaGreat
open Go Go.Mach Ieee P3
set_option linter.unusedVariables false

theorem one_sq {z G a : Rat} (h1 : 1 <= G * z) (hz : 0 < z) (ha : a = G \/ a = -G) (r0 r1 : Rat) (h0 : 0 <= r0) (g1 : 0 <= r1) {S : Rat} (hS : a * a + r0 + r1 = S) : 1 <= S * (z * z) := by
  have zz := Rat.mul_nonneg (Rat.le_of_lt hz) (Rat.le_of_lt hz)
  have a1 := Rat.mul_nonneg h0 zz
  have a2 := Rat.mul_nonneg g1 zz
  have a3 := Rat.mul_nonneg (by grind : 0 <= G * z - 1) (by grind : 0 <= G * z + 1)
  have e : a * a = G * G := by rcases ha with rfl | rfl <;> grind
  rw [e] at hS
  subst hS
  grind
theorem length_near {N : Nat} (hN : 1000 <= N) {X Y Z : Fl} (fX : finF X = true) (fY : finF Y = true) (fZ : finF Z = true) (wX : FW X) (wY : FW Y) (wZ : FW Z) {T : Rat} (hT : T <= 1152921504606846976) (bX : Bd (rv X) T) (bY : Bd (rv Y) T) (bZ : Bd (rv Z) T)
    (hS : 1 / 1329227995784915872903807060280344576 <= rv X * rv X + rv Y * rv Y + rv Z * rv Z) :
    ∃ d, finF d = true /\ 0 < rv d /\ Bd (rv d * rv d - (rv X * rv X + rv Y * rv Y + rv Z * rv Z)) (37 * uu * (rv X * rv X + rv Y * rv Y + rv Z * rv Z)) /\ ∀ κ, sZ54 N [X, Y, Z] κ = κ d 0 := by
  have hl : [X, Y, Z].length <= 48 := le3 X Y Z
  have hSm : Small N [X, Y, Z].length := small_of hN hl
  have d1 : decide ((([X, Y, Z].length : Nat) : Int) > 48) = false := dec_false (by simp)
  have n0 : ((0 : Int) != 0) = false := by decide
  have ha := allFin3x fX fY fZ
  have hf := finW_of (FW3 wX wY wZ) ha
  obtain ⟨hm, hmw⟩ := most_fin hf [X, Y, Z].length (Nat.le_refl _)
  have q1 : ∀ κ, sZ54 N [X, Y, Z] κ = sZ85 N [X, Y, Z] (fun xr => cond (!finF xr) (κ (some 0) 5) (κ xr 0)) := by
    intro κ
    unfold sZ54 GZ54 sZ117 GZ117
    rw [d1, cond_false, law_Finite [X, Y, Z] hSm, ha]
    dsimp only
    rw [Bool.not_true, cond_false, n0, cond_false]
    simp only [sZ92, GZ92, fin_eq]
  have h0 : feq (mostF [X, Y, Z] [X, Y, Z].length) (some 0) = false := by
    cases h0 : feq (mostF [X, Y, Z] [X, Y, Z].length) (some 0) with
    | false => rfl
    | true =>
      exfalso
      have z0 : rv X = 0 := most_zero hf h0 (i := 0) (Nat.le_of_ble_eq_true rfl)
      have z1 : rv Y = 0 := most_zero hf h0 (i := 1) (Nat.le_of_ble_eq_true rfl)
      have z2 : rv Z = 0 := most_zero hf h0 (i := 2) (Nat.le_of_ble_eq_true rfl)
      rw [z0, z1, z2] at hS
      grind
  obtain ⟨fr, e, he, he1, he2, hfin, -⟩ := scl_rat (N := N) hf h0
  obtain ⟨fr', e', he', -, -, G, G0, G1, G2, G3, j', hj', hge'⟩ := scl_great (N := N) hf h0
  have hee := frexp_same he he'
  subst hee
  obtain ⟨f0, b0⟩ := hfin 0 (Nat.le_of_ble_eq_true rfl)
  obtain ⟨f1, b1⟩ := hfin 1 (Nat.le_of_ble_eq_true rfl)
  obtain ⟨f2, b2⟩ := hfin 2 (Nat.le_of_ble_eq_true rfl)
  have f0 : finF (sclF X (1 - e)) = true := f0
  have f1 : finF (sclF Y (1 - e)) = true := f1
  have f2 : finF (sclF Z (1 - e)) = true := f2
  have b0 : Bd (rv (sclF X (1 - e))) 3 := b0
  have b1 : Bd (rv (sclF Y (1 - e))) 3 := b1
  have b2 : Bd (rv (sclF Z (1 - e))) 3 := b2
  have hz := pz_pos (1 - e)
  have c0 : Bd (rv X) G := G3 0 (Nat.le_of_ble_eq_true rfl)
  have c1 : Bd (rv Y) G := G3 1 (Nat.le_of_ble_eq_true rfl)
  have c2 : Bd (rv Z) G := G3 2 (Nat.le_of_ble_eq_true rfl)
  have hzb : Bd (pz (1 - e)) (pz (1 - e)) := ⟨by grind, Rat.le_refl⟩
  have m0 := (c0.mul hzb).mono G2
  have m1 := (c1.mul hzb).mono G2
  have m2 := (c2.mul hzb).mono G2
  have hB := Bg_ge
  have hη := eta_le
  have hη0 := eta_pos
  have k0 := (scl_near fX (k := 1 - e) (by omega) (m0.mono (by grind)) 2 m0).mono (B := 201 / 100 * uu) (by grind)
  have k1 := (scl_near fY (k := 1 - e) (by omega) (m1.mono (by grind)) 2 m1).mono (B := 201 / 100 * uu) (by grind)
  have k2 := (scl_near fZ (k := 1 - e) (by omega) (m2.mono (by grind)) 2 m2).mono (B := 201 / 100 * uu) (by grind)
  have z0 := sq_nonneg (rv X)
  have z1 := sq_nonneg (rv Y)
  have z2 := sq_nonneg (rv Z)
  have hone : 1 <= (rv X * rv X + rv Y * rv Y + rv Z * rv Z) * (pz (1 - e) * pz (1 - e)) := by
    match j', hj', hge' with
    | 0, _, h =>
      have h : rv X = G \/ rv X = -G := h
      exact one_sq G1 hz h _ _ z1 z2 rfl
    | 1, _, h =>
      have h : rv Y = G \/ rv Y = -G := h
      exact one_sq G1 hz h _ _ z0 z2 (by grind)
    | 2, _, h =>
      have h : rv Z = G \/ rv Z = -G := h
      exact one_sq G1 hz h _ _ z0 z1 (by grind)
  have hG : G <= T := by
    match j', hj', hge' with
    | 0, _, h =>
      have h : rv X = G \/ rv X = -G := h
      exact le_amt h bX
    | 1, _, h =>
      have h : rv Y = G \/ rv Y = -G := h
      exact le_amt h bY
    | 2, _, h =>
      have h : rv Z = G \/ rv Z = -G := h
      exact le_amt h bZ
  obtain ⟨n1, n2⟩ := len3_near f0 f1 f2 b0 b1 b2
  have hsum : sumSq (scl [X, Y, Z] (0 - (e - 1))) [X, Y, Z].length = fadd (fadd (fadd (some 0) (fmul (sclF X (1 - e)) (sclF X (1 - e)))) (fmul (sclF Y (1 - e)) (sclF Y (1 - e)))) (fmul (sclF Z (1 - e)) (sclF Z (1 - e))) := by
    rw [show (0 - (e - 1) : Int) = 1 - e by omega]; rfl
  have hg : NN (fsqrt (sumSq (scl [X, Y, Z] (0 - (e - 1))) [X, Y, Z].length)) := NN_fsqrt (NN_sumSq hf _ _ (Nat.le_refl _))
  have s1 := fun κ => ldexp_NN N hg (e := e - 1) (by omega) (by omega) κ
  have r1' : ∀ κ, sZ54 N [X, Y, Z] κ = (fun xr => cond (!finF xr) (κ (some 0) 5) (κ xr 0)) (sclF (fsqrt (sumSq (scl [X, Y, Z] (0 - (e - 1))) [X, Y, Z].length)) (e - 1)) := by
    intro κ
    rw [q1]
    unfold sZ85 GZ85
    rw [lawZ100 hN hl, h0, cond_false, he]
    dsimp only
    rw [and_tr (fits_ok (by omega) (by omega)), Bool.not_true, cond_false, lawZ86 hN hl hf (by omega) (by omega), s1]
  rw [hsum] at r1'
  generalize fadd (fadd (fadd (some 0) (fmul (sclF X (1 - e)) (sclF X (1 - e)))) (fmul (sclF Y (1 - e)) (sclF Y (1 - e)))) (fmul (sclF Z (1 - e)) (sclF Z (1 - e))) = n at *
  have y0 := sq_nonneg (rv (sclF X (1 - e)))
  have y1 := sq_nonneg (rv (sclF Y (1 - e)))
  have y2 := sq_nonneg (rv (sclF Z (1 - e)))
  have x0 := b0.sq
  have x1 := b1.sq
  have x2 := b2.sq
  have low : 1 / 2 <= rv (sclF X (1 - e)) * rv (sclF X (1 - e)) + rv (sclF Y (1 - e)) * rv (sclF Y (1 - e)) + rv (sclF Z (1 - e)) * rv (sclF Z (1 - e)) := by
    have a0 := sq_off k0 m0
    have a1 := sq_off k1 m1
    have a2 := sq_off k2 m2
    have i : rv X * pz (1 - e) * (rv X * pz (1 - e)) + rv Y * pz (1 - e) * (rv Y * pz (1 - e)) + rv Z * pz (1 - e) * (rv Z * pz (1 - e)) = (rv X * rv X + rv Y * rv Y + rv Z * rv Z) * (pz (1 - e) * pz (1 - e)) := by grind
    rw [<- i] at hone
    generalize rv X * pz (1 - e) * (rv X * pz (1 - e)) = p0 at *
    generalize rv Y * pz (1 - e) * (rv Y * pz (1 - e)) = p1 at *
    generalize rv Z * pz (1 - e) * (rv Z * pz (1 - e)) = p2 at *
    obtain ⟨a00, -⟩ := a0
    obtain ⟨a10, -⟩ := a1
    obtain ⟨a20, -⟩ := a2
    clear i n1 n2 z0 z1 z2 k0 k1 k2 m0 m1 m2 hS
    grind
  have hn0 : 0 < rv n := by
    obtain ⟨a, b⟩ := n2
    generalize rv (sclF X (1 - e)) * rv (sclF X (1 - e)) + rv (sclF Y (1 - e)) * rv (sclF Y (1 - e)) + rv (sclF Z (1 - e)) * rv (sclF Z (1 - e)) = s at *
    clear hone hS
    grind
  obtain ⟨s2, s3, s4⟩ := sqrt_near n1 hn0
  have h6 := root_six s3 s4 n2 (by grind) (by grind)
  have hlen := len_alg rfl m0 m1 m2 k0 k1 k2 n2 s4 hone
  have hq := sq_div hz hlen
  have hpi : pz (1 - e) * pz (e - 1) = 1 := pz_inv (by omega) (by omega) (by omega)
  have hpp := pz_pos (e - 1)
  have hz0 : pz (1 - e) ≠ 0 := by grind
  have hdiv : rv (fsqrt n) / pz (1 - e) = rv (fsqrt n) * pz (e - 1) := by grind
  rw [hdiv] at hq
  have hpe : pz (e - 1) <= G := by
    have a := Rat.mul_nonneg (by grind : 0 <= G * pz (1 - e) - 1) (Rat.le_of_lt hpp)
    have b : G * pz (1 - e) * pz (e - 1) = G := by rw [Rat.mul_assoc, hpi, Rat.mul_one]
    grind
  have hr0 := Rat.mul_pos s3 hpp
  have hrb : Bd (rv (fsqrt n) * pz (e - 1)) (6 * 1152921504606846976) := (Bd.mul (⟨by grind, h6⟩ : Bd (rv (fsqrt n)) 6) (⟨by grind, by grind⟩ : Bd (pz (e - 1)) 1152921504606846976)).mono (by grind)
  have hbig : (6 * 1152921504606846976 : Rat) <= Bg := by grind
  have hfin' := scl_fin s2 (k := e - 1) (by omega) (hrb.mono hbig)
  have hnr := scl_near s2 (k := e - 1) (by omega) (hrb.mono hbig) _ (⟨by grind, Rat.le_refl⟩ : Bd (rv (fsqrt n) * pz (e - 1)) (rv (fsqrt n) * pz (e - 1)))
  have hlow : 1 / 2305843009213693952 <= rv (fsqrt n) * pz (e - 1) := by
    refine le_of_sq (Rat.le_of_lt hr0) ?_
    obtain ⟨a, b⟩ := hq
    generalize rv X * rv X + rv Y * rv Y + rv Z * rv Z = S at *
    generalize rv (fsqrt n) * pz (e - 1) * (rv (fsqrt n) * pz (e - 1)) = rr at *
    clear hone hlen hnr n2 z0 z1 z2 low
    grind
  have hfl := lam_alg hr0 hq hnr (by
    clear hone hlen hnr n2 z0 z1 z2 low hq hS k0 k1 k2
    grind)
  exact ⟨_, hfin', hfl.1, hfl.2, fun κ => by rw [r1']; dsimp only; rw [hfin']; rfl⟩
def p3 (a b c : Fl) : P3 := ⟨rv a, rv b, rv c⟩
theorem div_c {x d : Rat} : 1 / d * x = x / d := by rw [Rat.div_def, Rat.div_def, Rat.one_mul, Rat.mul_comm]
theorem short_near {N : Nat} (hN : 1000 <= N) {X Y Z : Fl} (fX : finF X = true) (fY : finF Y = true) (fZ : finF Z = true) (wX : FW X) (wY : FW Y) (wZ : FW Z) {T : Rat} (hT : T <= 1152921504606846976) (bX : Bd (rv X) T) (bY : Bd (rv Y) T) (bZ : Bd (rv Z) T)
    (hS : 1 / 1329227995784915872903807060280344576 <= (p3 X Y Z).dot (p3 X Y Z)) :
    ∃ (d : Rat) (a b c : Fl), 0 < d /\ Bd (d * d - (p3 X Y Z).dot (p3 X Y Z)) (37 * uu * (p3 X Y Z).dot (p3 X Y Z)) /\ (finF a = true /\ finF b = true /\ finF c = true) /\ (FW a /\ FW b /\ FW c) /\ NB ((p3 a b c).sub (P3.scl (1 / d) (p3 X Y Z))) (4 * uu) /\ ∀ κ, sZ58 N X Y Z κ = κ a b c 0 := by
  obtain ⟨d, fd, d0, hd, hL⟩ := length_near hN fX fY fZ wX wY wZ hT bX bY bZ hS
  have hlen := one_len d0 (len_of (p := p3 X Y Z) d0 hd)
  have bx := hlen.2.2.x
  have bY' := hlen.2.2.y
  have bz := hlen.2.2.z
  have ex : (P3.scl (1 / rv d) (p3 X Y Z)).x = rv X / rv d := div_c
  have ey : (P3.scl (1 / rv d) (p3 X Y Z)).y = rv Y / rv d := div_c
  have ez : (P3.scl (1 / rv d) (p3 X Y Z)).z = rv Z / rv d := div_c
  rw [ex] at bx
  rw [ey] at bY'
  rw [ez] at bz
  have hd0 : rv d ≠ 0 := by grind
  have hB := Bg_ge
  have hη := eta_le
  have hη0 := eta_pos
  have hb2 : (1 + 19 * uu : Rat) <= Bg / 2 := by grind
  obtain ⟨f1, -, g1⟩ := div_near fX fd hd0 (bx.mono hb2)
  obtain ⟨f2, -, g2⟩ := div_near fY fd hd0 (bY'.mono hb2)
  obtain ⟨f3, -, g3⟩ := div_near fZ fd hd0 (bz.mono hb2)
  have k1 := (g1 _ bx).mono (B := 205 / 100 * uu) (by grind)
  have k2 := (g2 _ bY').mono (B := 205 / 100 * uu) (by grind)
  have k3 := (g3 _ bz).mono (B := 205 / 100 * uu) (by grind)
  refine ⟨rv d, _, _, _, d0, hd, ⟨f1, f2, f3⟩, ⟨FW_fdiv X d, FW_fdiv Y d, FW_fdiv Z d⟩, (P3.NB.of (e := 205 / 100 * uu) ?_ ?_ ?_).mono (by grind), fun κ => ?_⟩
  · show Bd (rv (fdiv X d) - (P3.scl (1 / rv d) (p3 X Y Z)).x) _
    rw [ex]; exact k1
  · show Bd (rv (fdiv Y d) - (P3.scl (1 / rv d) (p3 X Y Z)).y) _
    rw [ey]; exact k2
  · show Bd (rv (fdiv Z d) - (P3.scl (1 / rv d) (p3 X Y Z)).z) _
    rw [ez]; exact k3
  · unfold sZ58 GZ58
    rw [hL]; rfl
end Go.Proofs.YtgngdkjghdohiaaGreat
end
section
namespace Go.Proofs.YtgngdkjghdohiaaGreat
open Go Go.Mach Ieee P3
set_option linter.unusedVariables false

theorem law_CrossQ {N : Nat} (hN : 1000 <= N) {a b c p q r : Fl} (h1 : allFin [a, b, c] = true) (h2 : allFin [p, q, r] = true) (h3 : allFin [fsub (fmul b r) (fmul c q), fsub (fmul c p) (fmul a r), fsub (fmul a q) (fmul b p)] = true) (κ : K3) : sZ82 N a b c p q r κ = κ (fsub (fmul b r) (fmul c q)) (fsub (fmul c p) (fmul a r)) (fsub (fmul a q) (fmul b p)) 0 := by
  unfold sZ82 GZ82
  rw [lawZ8 _ (small_of hN (Nat.le_of_ble_eq_true rfl)), h1, show ((!true) == false) = true from rfl, cond_true, lawZ8 _ (small_of hN (Nat.le_of_ble_eq_true rfl)), h2, Bool.not_true, cond_false]
  unfold sZ49 GZ49 sZ81 GZ81
  dsimp only
  rw [lawZ8 _ (small_of hN (Nat.le_of_ble_eq_true rfl)), h3]
  rfl
theorem cross_near {N : Nat} (hN : 1000 <= N) {a b c p q r : Fl} {M : Rat} (hR : Room M) (fa : finF a = true) (fb : finF b = true) (fc : finF c = true) (ha : Bd (rv a) kap) (hb : Bd (rv b) kap) (hc : Bd (rv c) kap) (fp : finF p = true) (fq : finF q = true) (fr : finF r = true) (hp : Bd (rv p) M) (hq : Bd (rv q) M) (hr : Bd (rv r) M) :
    ∃ u v w : Fl, (finF u = true /\ finF v = true /\ finF w = true) /\ (FW u /\ FW v /\ FW w) /\ (Bd (rv u) (201 / 100 * M) /\ Bd (rv v) (201 / 100 * M) /\ Bd (rv w) (201 / 100 * M)) /\ NB ((p3 u v w).sub ((p3 a b c).crs (p3 p q r))) (7 * uu * M) /\ ∀ κ, sZ82 N a b c p q r κ = κ u v w 0 := by
  have hM := hR.1
  obtain ⟨⟨a0, b0⟩, ⟨a1, b1⟩, ⟨a2, b2⟩⟩ := turn_near (w := a) hR fa ha fa ha fb hb fc hc fp hp fq hq fr hr
  refine ⟨_, _, _, ⟨a0.1, a1.1, a2.1⟩, ⟨FW_fsub _ _, FW_fsub _ _, FW_fsub _ _⟩, ⟨(a0.bd b0).mono (by grind), (a1.bd b1).mono (by grind), (a2.bd b2).mono (by grind)⟩, (P3.NB.of (e := 401 / 100 * uu * M) ?_ ?_ ?_).mono (by grind), fun κ => law_CrossQ hN (allFin3x fa fb fc) (allFin3x fp fq fr) (allFin3x a0.1 a1.1 a2.1) κ⟩
  · exact a0.2
  · exact a1.2
  · exact a2.2
theorem room_kap : Room kap := by
  have hη := eta_le
  have hη0 := eta_pos
  have hB := Bg_ge
  exact ⟨by grind, .inr (by grind), by grind⟩
theorem dir_zero {a b c : Fl} (fa : finF a = true) (fb : finF b = true) (fc : finF c = true) (h : 0 < (p3 a b c).dot (p3 a b c)) : dirE a b c = 0 := by
  unfold dirE
  rw [allFin3x fa fb fc, Bool.not_true, cond_false]
  cases h1 : feq a (some 0) with
  | false => rfl
  | true =>
    cases h2 : feq b (some 0) with
    | false => rfl
    | true =>
      cases h3 : feq c (some 0) with
      | false => rfl
      | true =>
        exfalso
        have e1 := (feq_rv fa rv_zero.1).1 h1
        have e2 := (feq_rv fb rv_zero.1).1 h2
        have e3 := (feq_rv fc rv_zero.1).1 h3
        rw [rv_zero.2] at e1 e2 e3
        unfold P3.dot p3 at h
        simp only [e1, e2, e3] at h
        grind
theorem axes_near {N : Nat} (hN : 1000 <= N) {a b c p q r : Fl} {T M m c0 : Rat} (hc0 : 1 / 67 <= c0) (hT : T <= 1152921504606846976) (hR : Room M) (fa : finF a = true) (fb : finF b = true) (fc : finF c = true) (wa : FW a) (wb : FW b) (wc : FW c) (ha : Bd (rv a) T) (hb : Bd (rv b) T) (hc : Bd (rv c) T)
    (hS : 1 / 1329227995784915872903807060280344576 <= (p3 a b c).dot (p3 a b c)) (fp : finF p = true) (fq : finF q = true) (fr : finF r = true) (hp : Bd (rv p) M) (hq : Bd (rv q) M) (hr : Bd (rv r) M) (hm : NB (p3 p q r) m) (hM : M <= m) (hm2 : m <= 288230376151711744) (hm1 : 1 / 9007199254740992 <= m)
    (hX : ∀ l : Rat, 0 < l -> Bd (l * l - (p3 a b c).dot (p3 a b c)) (37 * uu * (p3 a b c).dot (p3 a b c)) -> ∃ hi, Len ((P3.scl (1 / l) (p3 a b c)).crs (p3 p q r)) (c0 * m) hi) :
    ∃ (l h : Rat) (f : P3) (x0 x1 x2 y0 y1 y2 z0 z1 z2 : Fl), (allFin [x0, x1, x2] = true /\ allFin [y0, y1, y2] = true /\ allFin [z0, z1, z2] = true) /\ Ax (p3 a b c) (p3 p q r) l m h f (p3 x0 x1 x2) (p3 y0 y1 y2) (p3 z0 z1 z2) /\ (1 - 19 * uu) * (c0 * m - 12 * uu * m) <= h /\ ∀ κ, sZ116 N a b c p q r κ = κ x0 x1 x2 y0 y1 y2 z0 z1 z2 0 := by
  have n0 : ((0 : Int) != 0) = false := rfl
  obtain ⟨l, x0, x1, x2, l0, hl, ⟨fx0, fx1, fx2⟩, ⟨wx0, wx1, wx2⟩, hx, hs⟩ := short_near hN fa fb fc wa wb wc hT ha hb hc hS
  have hE1 := one_len l0 (len_of l0 hl)
  obtain ⟨hi, hXl⟩ := hX l l0 hl
  have hU1 := (hE1.2.2.le hx).mono (f := kap) (by grind)
  obtain ⟨f0, f1, f2, ⟨ff0, ff1, ff2⟩, ⟨wf0, wf1, wf2⟩, ⟨bf0, bf1, bf2⟩, hf, hc1⟩ := cross_near hN hR fx0 fx1 fx2 hU1.x hU1.y hU1.z fp fq fr hp hq hr
  have hf2 : NB ((p3 f0 f1 f2).sub ((P3.scl (1 / l) (p3 a b c)).crs (p3 p q r))) (12 * uu * m) := by
    have k := hx.crs hm
    have e : ((p3 x0 x1 x2).sub (P3.scl (1 / l) (p3 a b c))).crs (p3 p q r) = ((p3 x0 x1 x2).crs (p3 p q r)).sub ((P3.scl (1 / l) (p3 a b c)).crs (p3 p q r)) := by
      generalize P3.scl (1 / l) (p3 a b c) = E1
      apply P3.ext' <;> (unfold P3.crs P3.sub; grind)
    rw [e] at k
    have := hf.add k
    rw [sub_add] at this
    exact this.mono (by grind)
  have hm0 : 0 <= m := hm.1
  have hcm : 1 / 67 * m <= c0 * m := by
    have := Rat.mul_nonneg ((Rat.le_iff_sub_nonneg _ _).1 hc0) hm0
    grind
  have hfl := hXl.near hf2 (by grind)
  have hff : 1 / 1329227995784915872903807060280344576 <= (p3 f0 f1 f2).dot (p3 f0 f1 f2) := by
    refine Rat.le_trans ?_ hfl.2.1
    have : (1 / 1152921504606846976 : Rat) <= c0 * m - 12 * uu * m := by grind
    have h2 := Rat.mul_nonneg ((Rat.le_iff_sub_nonneg _ _).1 this) (by grind : 0 <= c0 * m - 12 * uu * m + 1 / 1152921504606846976)
    grind
  have hdir := dir_zero ff0 ff1 ff2 (by grind)
  have hTf : 201 / 100 * M <= 1152921504606846976 := by grind
  obtain ⟨h, y0, y1, y2, h0, hh, ⟨fy0, fy1, fy2⟩, -, hy, hs2⟩ := short_near hN ff0 ff1 ff2 wf0 wf1 wf2 hTf bf0 bf1 bf2 hff
  have hE2 := one_len h0 (len_of h0 hh)
  have hU2 := (hE2.2.2.le hy).mono (f := kap) (by grind)
  obtain ⟨z0, z1, z2, ⟨fz0, fz1, fz2⟩, -, -, hz, hc2⟩ := cross_near hN room_kap fx0 fx1 fx2 hU1.x hU1.y hU1.z fy0 fy1 fy2 hU2.x hU2.y hU2.z
  have hlow := (lam_of h0 hh hfl).1
  refine ⟨l, h, p3 f0 f1 f2, x0, x1, x2, y0, y1, y2, z0, z1, z2, ⟨allFin3x fx0 fx1 fx2, allFin3x fy0 fy1 fy2, allFin3x fz0 fz1 fz2⟩, ⟨l0, hl, hm, hf2, h0, hh, by grind, hx, hy, hz.mono (by grind)⟩, hlow, fun κ => ?_⟩
  show GZ116 N (sZ58 N) (sZ82 N) (sZ22 N) a b c p q r κ = _
  unfold GZ116
  rw [hs, n0, cond_false, hc1, n0, cond_false, law_dir hN, hdir, n0, cond_false, hs2, n0, cond_false, hc2]
theorem law_TriadQ {N : Nat} (hN : 1000 <= N) {a0 a1 a2 b0 b1 b2 c0 c1 c2 d0 d1 d2 x0 x1 x2 x3 x4 x5 x6 x7 x8 x9 x10 x11 x12 x13 x14 x15 x16 x17 : Fl} (e0 : dirE a0 a1 a2 = 0) (e1 : dirE b0 b1 b2 = 0) (e2 : dirE c0 c1 c2 = 0) (e3 : dirE d0 d1 d2 = 0)
    (f1 : ∀ κ, sZ116 N a0 a1 a2 b0 b1 b2 κ = κ x0 x1 x2 x3 x4 x5 x6 x7 x8 0) (f2 : ∀ κ, sZ116 N c0 c1 c2 d0 d1 d2 κ = κ x9 x10 x11 x12 x13 x14 x15 x16 x17 0) (hov : ovrs x0 x1 x2 x3 x4 x5 x6 x7 x8 x9 x10 x11 x12 x13 x14 x15 x16 x17 = false) (κ : K4) :
    sZ59 N a0 a1 a2 b0 b1 b2 c0 c1 c2 d0 d1 d2 κ = sZ75 N 3 3 (ents x0 x1 x2 x3 x4 x5 x6 x7 x8 x9 x10 x11 x12 x13 x14 x15 x16 x17) κ := by
  have n0 : ((0 : Int) != 0) = false := rfl
  have hch : chQ N x0 x1 x2 x3 x4 x5 x6 x7 x8 x9 x10 x11 x12 x13 x14 x15 x16 x17 κ = sZ75 N 3 3 (ents x0 x1 x2 x3 x4 x5 x6 x7 x8 x9 x10 x11 x12 x13 x14 x15 x16 x17) κ := by rw [chQ_eq, hov, cond_false]
  rw [<- hch]
  unfold sZ59 GZ59
  rw [law_dir hN, e0, n0, cond_false, law_dir hN, e1, n0, cond_false, law_dir hN, e2, n0, cond_false, law_dir hN, e3, n0, cond_false, f1, n0, cond_false, f2, n0, cond_false]
  rfl
theorem entF_near {x u y v z w : Fl} (fx : finF x = true) (fu : finF u = true) (fy : finF y = true) (fv : finF v = true) (fz : finF z = true) (fw : finF w = true) (bx : Bd (rv x) kap) (bu : Bd (rv u) kap) (bY : Bd (rv y) kap) (bv : Bd (rv v) kap) (bz : Bd (rv z) kap) (bw : Bd (rv w) kap) :
    (∀ o, ovr o x u y v z w = o) /\ Ap (ent x u y v z w) (rv x * rv u + rv y * rv v + rv z * rv w) (10 * uu) := by
  have p1 := p_near fx fu bx bu
  have p2 := p_near fy fv bY bv
  have p3' := p_near fz fw bz bw
  have s1 := add_st (E := 41 / 10 * uu) (D := 203 / 100) p1 p2 (by grind) (by grind) (by grind)
  have s2 := add_st (E := 10 * uu) (D := 305 / 100) s1 p3' (by grind) (by grind) (by grind)
  refine ⟨fun o => ?_, s2.1⟩
  have g := s2.1.1
  unfold ovr ent
  rw [p1.1.1, p2.1.1, s1.1.1, p3'.1.1, g]
  simp
end Go.Proofs.YtgngdkjghdohiaaGreat
end
section
namespace Go.Proofs.YtgngdkjghdohiaaGreat
open Go Go.Mach Ieee P3
set_option linter.unusedVariables false

abbrev c20n : Fl := some 4517110426252607488
abbrev c20 : Fl := some 4697254411347427328
theorem ldexp_20n {N : Nat} (hN : 1000 <= N) (κ : Fl -> Bool) : sZ19 N (some 4607182418800017408) (-20) κ = κ c20n := by
  obtain ⟨M, rfl⟩ : ∃ M, N = M + 1000 := ⟨N - 1000, by omega⟩
  kernel_rfl
theorem ldexp_20 {N : Nat} (hN : 1000 <= N) (κ : Fl -> Bool) : sZ19 N (some 4607182418800017408) 20 κ = κ c20 := by
  obtain ⟨M, rfl⟩ : ∃ M, N = M + 1000 := ⟨N - 1000, by omega⟩
  kernel_rfl
abbrev c30n : Fl := some 4472074429978902528
theorem ldexp_30n {N : Nat} (hN : 1000 <= N) (κ : Fl -> Bool) : sZ19 N (some 4607182418800017408) (-30) κ = κ c30n := by
  obtain ⟨M, rfl⟩ : ∃ M, N = M + 1000 := ⟨N - 1000, by omega⟩
  kernel_rfl
theorem c20n_val : finF c20n = true /\ rv c20n = 1 / 1048576 := by
  have h : Ieee.double.read 4517110426252607488 = .number false 4503599627370496 (-72) := by decide
  obtain ⟨a, b⟩ := rv_pow h (n := 20) (by decide)
  refine ⟨a, ?_⟩
  rw [b]
  have := Ue_mul 20
  rw [show (2 : Rat) ^ 20 = 1048576 by decide +kernel] at this
  grind
theorem c20_val : finF c20 = true /\ rv c20 = 1048576 := by
  have h : Ieee.double.read 4697254411347427328 = .number false 4503599627370496 (-32) := by decide
  obtain ⟨a, b⟩ := rv_powG h (n := 20) (by decide)
  refine ⟨a, ?_⟩
  rw [b]
  decide +kernel
theorem c30n_val : finF c30n = true /\ rv c30n = 8388608 * uu := by
  have h : Ieee.double.read 4472074429978902528 = .number false 4503599627370496 (-82) := by decide
  obtain ⟨a, b⟩ := rv_pow h (n := 30) (by decide)
  refine ⟨a, ?_⟩
  rw [b]
  have := Ue_mul 30
  rw [show (2 : Rat) ^ 30 = 1073741824 by decide +kernel] at this
  grind
def usB (x : Fl) : Bool := feq x (some 0) || (fge (absF x) c20n && fle (absF x) c20)
theorem law_usual {N : Nat} (hN : 1000 <= N) (a b c : Fl) (k : Bool -> Bool) : sZ65 N a b c k = k (usB a && (usB b && usB c)) := by
  unfold sZ65 GZ65 usB
  simp only [law_absF, ldexp_20n hN, ldexp_20 hN]
  cases feq a (some 0) <;> cases feq b (some 0) <;> cases feq c (some 0) <;> cases fge (absF a) c20n <;> cases fge (absF b) c20n <;> cases fge (absF c) c20n <;> cases fle (absF a) c20 <;> cases fle (absF b) c20 <;> cases fle (absF c) c20 <;> rfl
def Us (a : Rat) : Prop := a = 0 \/ (1 / 1048576 <= a /\ a <= 1048576) \/ (1 / 1048576 <= -a /\ -a <= 1048576)
theorem us_ok {x : Fl} (hw : FW x) (h : usB x = true) : finF x = true /\ Us (rv x) := by
  unfold usB at h
  rw [Bool.or_eq_true, Bool.and_eq_true] at h
  rcases h with h | ⟨h1, h2⟩
  · have hf := feq_fin h
    refine ⟨hf, .inl ?_⟩
    have := (feq_rv hf rv_zero.1).1 h
    rw [rv_zero.2] at this
    exact this
  · have hf := num_between c20n_val.1 c20_val.1 h1 h2
    have hx := absF_back hf
    have g1 := (fge_rv hf c20n_val.1).1 h1
    have g2 := (fle_rv hf c20_val.1).1 h2
    rw [c20n_val.2] at g1
    rw [c20_val.2] at g2
    refine ⟨hx, ?_⟩
    rcases rv_abs hx hw with e | e
    · rw [e] at g1 g2; exact .inr (.inl ⟨g1, g2⟩)
    · rw [e] at g1 g2; exact .inr (.inr ⟨g1, g2⟩)
theorem law_exact {N : Nat} (hN : 1000 <= N) {a b c : Fl} (fa : finF a = true) (fb : finF b = true) (fc : finF c = true) (wa : FW a) (wb : FW b) (wc : FW c) (k : Int -> Int -> Int -> Bool -> List Int -> Bool -> List Int -> Bool -> List Int -> Bool) :
    sZ67 N a b c k = k (ofE a).1 (ofE b).1 (ofE c).1 (decide ((ofE a).2 < 0)) (digs (ofE a).2.natAbs) (decide ((ofE b).2 < 0)) (digs (ofE b).2.natAbs) (decide ((ofE c).2 < 0)) (digs (ofE c).2.natAbs) := by
  unfold sZ67 GZ67
  rw [law_Of hN fa wa]
  unfold exK
  dsimp only
  rw [law_Of hN fb wb]
  unfold exK
  dsimp only
  rw [law_Of hN fc wc]
  rfl
def dqE (a0 a1 a2 b0 b1 b2 : Int × Int) : Int × Int := exAdd (exAdd (exMul a0 b0) (exMul a1 b1)) (exMul a2 b2)
theorem mul_same (N : Nat) (x y : Int) (b : Bool) (l : List Int) (k : Int -> Bool -> List Int -> Bool) : sZ5 N x y b l k = sZ1 N x y b l b l k := rfl
theorem add_none (N : Nat) (x y : Int) (b b1 : Bool) (l : List Int) (k0 k1 : List Int -> Bool) (k2 : Int -> List Int -> Bool -> List Int -> Bool) : sZ2 N x y b b1 l k0 k1 k2 = k0 [] := rfl
theorem law_dot2 {N : Nat} (hN : 1000 <= N) {a0 a1 a2 b0 b1 b2 : Int × Int} (h0 : Ex 1100 53 a0) (h1 : Ex 1100 53 a1) (h2 : Ex 1100 53 a2) (g0 : Ex 1100 53 b0) (g1 : Ex 1100 53 b1) (g2 : Ex 1100 53 b2) (k : Int -> Bool -> List Int -> Bool) :
    sZ3 N a0.1 a1.1 a2.1 b0.1 b1.1 b2.1 (decide (a0.2 < 0)) (digs a0.2.natAbs) (decide (a1.2 < 0)) (digs a1.2.natAbs) (decide (a2.2 < 0)) (digs a2.2.natAbs) (decide (b0.2 < 0)) (digs b0.2.natAbs) (decide (b1.2 < 0)) (digs b1.2.natAbs) (decide (b2.2 < 0)) (digs b2.2.natAbs) k = exK (dqE a0 a1 a2 b0 b1 b2) k := by
  have m0 := h0.mul g0
  have m1 := h1.mul g1
  have m2 := (h2.mul g2).mono (E' := 2200) (B' := 4600) (by omega) (by omega)
  have s1 := (m0.add m1).mono (E' := 2200) (B' := 4600) (by omega) (by omega)
  unfold sZ3 GZ3 sZ41 GZ41
  dsimp only
  rw [law_ExMul hN h0 g0 (by omega) (by omega)]
  unfold exK
  dsimp only
  rw [add_none, law_ExMul hN h1 g1 (by omega) (by omega)]
  unfold exK
  dsimp only
  refine Eq.trans (law_ExAdd hN m0 m1 (by omega) _ _ _ ?_ ?_) ?_
  · rfl
  · rfl
  unfold exK
  dsimp only
  rw [law_ExMul hN h2 g2 (by omega) (by omega)]
  unfold exK
  dsimp only
  refine Eq.trans (law_ExAdd hN s1 m2 (by omega) _ _ _ ?_ ?_) ?_
  · rfl
  · rfl
  · rfl
theorem law_dot1 {N : Nat} (hN : 1000 <= N) {a0 a1 a2 : Int × Int} (h0 : Ex 1100 53 a0) (h1 : Ex 1100 53 a1) (h2 : Ex 1100 53 a2) (k : Int -> Bool -> List Int -> Bool) :
    sZ9 N a0.1 a1.1 a2.1 (decide (a0.2 < 0)) (digs a0.2.natAbs) (decide (a1.2 < 0)) (digs a1.2.natAbs) (decide (a2.2 < 0)) (digs a2.2.natAbs) k = exK (dqE a0 a1 a2 a0 a1 a2) k := by
  rw [<- law_dot2 hN h0 h1 h2 h0 h1 h2]
  rfl
theorem dqE_eq (a b c p q r : Fl) : dqE (ofE a) (ofE b) (ofE c) (ofE p) (ofE q) (ofE r) = dotE [a, b, c] [p, q, r] 3 := rfl
end Go.Proofs.YtgngdkjghdohiaaGreat
end
section
namespace Go.Proofs.YtgngdkjghdohiaaGreat
open Go Go.Mach Ieee P3
set_option linter.unusedVariables false

theorem apart_ofB {N : Nat} (hN : 1000 <= N) {w x y z j0 j1 j2 j3 : Fl} (h : allFin [w, x, y, z] = true) (hU : Un (rv w) (rv x) (rv y) (rv z)) (w1 : FW x) (w2 : FW y) (w3 : FW z) (u4 : U4 j0 j1 j2 j3) {Q c hw hx hy hz : Rat} (hc : Bd c (6 / 10))
    (gw : Bd (hw - 4 * Q * rv w) (425005 * uu)) (gx : Bd (hx - 4 * Q * rv x) (425005 * uu)) (gy : Bd (hy - 4 * Q * rv y) (425005 * uu)) (gz : Bd (hz - 4 * Q * rv z) (425005 * uu))
    (dw : Bd (rv j0 - c * hw) (205 / 100 * uu)) (dx : Bd (rv j1 - c * hx) (205 / 100 * uu)) (dy : Bd (rv j2 - c * hy) (205 / 100 * uu)) (dz : Bd (rv j3 - c * hz) (205 / 100 * uu)) :
    ∃ d, finF d = true /\ rv d <= 6300000 * uu /\ ∀ κ, sZ33 N w x y z j0 j1 j2 j3 κ = κ d 0 := by
  obtain ⟨fw, fx, fy, fz⟩ := fin4 h
  obtain ⟨bw, bx, bY, bz⟩ := Un_bd hU.n
  obtain ⟨f0, f1, f2, f3⟩ := fin4 u4.1
  obtain ⟨b0, b1, b2, b3⟩ := Un_bd (u4.2.mono (B := 1 / 1000) (by grind))
  obtain ⟨nx, rx⟩ := rv_neg w1 fx
  obtain ⟨ny, ry⟩ := rv_neg w2 fy
  obtain ⟨nz, rz⟩ := rv_neg w3 fz
  have cx : Bd (rv (fneg x)) kap := by rw [rx]; exact bx.neg
  have cy : Bd (rv (fneg y)) kap := by rw [ry]; exact bY.neg
  have cz : Bd (rv (fneg z)) kap := by rw [rz]; exact bz.neg
  obtain ⟨m0, m1, m2, m3⟩ := qmul_near2 fw nx ny nz f0 f1 f2 f3 bw cx cy cz b0 b1 b2 b3
  rw [rx, ry, rz] at m0 m1 m2 m3
  have v1 := apart0B bw bx bY bz hc gw gx gy gz dw dx dy dz
  have v2 := apart0B bw bY bz bx hc gw gy gz gx dw dy dz dx
  have v3 := apart0B bw bz bx bY hc gw gz gx gy dw dz dx dy
  have e2 : rv w * rv j2 + -(rv y) * rv j0 + -(rv z) * rv j1 - -(rv x) * rv j3 = rv w * rv j2 - -(rv x) * rv j3 + -(rv y) * rv j0 + -(rv z) * rv j1 := by grind
  have e3 : rv w * rv j3 + -(rv z) * rv j0 + -(rv x) * rv j2 - -(rv y) * rv j1 = rv w * rv j3 + -(rv x) * rv j2 - -(rv y) * rv j1 + -(rv z) * rv j0 := by grind
  rw [e2] at v2
  rw [e3] at v3
  have hall := allFin4' m0.1 m1.1 m2.1 m3.1
  obtain ⟨d, d1, d2, d3⟩ := length_smallB hN m1.1 m2.1 m3.1 (FW_fsub _ _) (FW_fadd _ _) (FW_fadd _ _) ((m1.bd v1).mono (by grind)) ((m2.bd v2).mono (by grind)) ((m3.bd v3).mono (by grind))
  refine ⟨d, d1, d2, fun κ => ?_⟩
  have hcf := allFin4' fw nx ny nz
  unfold sZ33 GZ33
  rw [law_good2 hN, h, u4.1, show (!(true && true)) = false from rfl, cond_false, law_ConjQ hN h, law_MulQ hN, hcf, u4.1]
  unfold mulK
  dsimp only
  rw [hall, Bool.not_true, cond_false, show ((0 : Int) != 0) = false from rfl, cond_false, show (true && true) = true from rfl, cond_true, d3]


theorem us_max {a b c M : Rat} (ha : Us a) (hb : Us b) (hc : Us c) (hM : 0 <= M) (ba : Bd a M) (bb : Bd b M) (bc : Bd c M) (hj : M = a \/ M = -a \/ M = b \/ M = -b \/ M = c \/ M = -c) (h0 : 0 < a * a + b * b + c * c) : 1 / 1048576 <= M /\ M <= 1048576 := by
  have key : ∀ {t : Rat}, Us t -> (M = t \/ M = -t) -> M = 0 \/ (1 / 1048576 <= M /\ M <= 1048576) := by
    intro t ht h
    rcases ht with rfl | ⟨h1, h2⟩ | ⟨h1, h2⟩
    · left; rcases h with h | h <;> grind
    · rcases h with h | h
      · right; rw [h]; exact ⟨h1, h2⟩
      · left; grind
    · rcases h with h | h
      · left; grind
      · right; rw [h]; exact ⟨h1, h2⟩
  have h : M = 0 \/ (1 / 1048576 <= M /\ M <= 1048576) := by
    rcases hj with h | h | h | h | h | h
    · exact key ha (.inl h)
    · exact key ha (.inr h)
    · exact key hb (.inl h)
    · exact key hb (.inr h)
    · exact key hc (.inl h)
    · exact key hc (.inr h)
  rcases h with h | h
  · exfalso
    have q1 := ba.sq
    have q2 := bb.sq
    have q3 := bc.sq
    rw [h] at q1 q2 q3
    grind
  · exact h
theorem us_room {M : Rat} (h1 : 1 / 1048576 <= M) (h2 : M <= 9007199254740992) : Room M := by
  have hη := eta_le
  have hη0 := eta_pos
  have hB := Bg_ge
  exact ⟨by grind, .inr (by grind), by grind⟩
theorem apart_line {a b : P3} {l m : Rat} (l0 : 0 < l) (ll : Bd (l * l - a.dot a) (37 * uu * a.dot a)) (hm : 9999 / 10000 * (m * m) <= b.dot b) (h : a.dot a * b.dot b <= 4096 * (a.dot a * b.dot b - a.dot b * a.dot b)) : 1 / 65 * m * (1 / 65 * m) <= ((P3.scl (1 / l) a).crs b).dot ((P3.scl (1 / l) a).crs b) := by
  rw [lagr]
  have e1 : (P3.scl (1 / l) a).dot (P3.scl (1 / l) a) = 1 / l * (1 / l) * a.dot a := by unfold P3.dot P3.scl; grind
  have e2 : (P3.scl (1 / l) a).dot b = 1 / l * a.dot b := by unfold P3.dot P3.scl; grind
  rw [e1, e2]
  have i1 : 1 / l * l = 1 := by
    have : l ≠ 0 := by grind
    grind
  have a0 := dot_nonneg a
  have b0 := dot_nonneg b
  generalize 1 / l = i at *
  generalize a.dot a = A at *
  generalize b.dot b = B at *
  generalize a.dot b = D at *
  have ii : i * i * (l * l) = 1 := by
    have : i * i * (l * l) = (i * l) * (i * l) := by grind
    rw [this, i1]; grind
  have i0 := sq_nonneg i
  generalize l * l = L at *
  have e3 : i * i * A * B - i * D * (i * D) = i * i * (A * B - D * D) := by grind
  rw [e3]
  generalize i * i = I at *
  have k1 := Rat.mul_nonneg i0 (by have := ll.2; grind : 0 <= (1 + 37 * uu) * A - L)
  have k2 : 9999 / 10000 <= I * A := by grind
  have k3 := Rat.mul_nonneg i0 (by grind : 0 <= 4096 * (A * B - D * D) - A * B)
  have k4 := Rat.mul_nonneg (by grind : 0 <= I * A - 9999 / 10000) b0
  have m2 := sq_nonneg m
  have e4 : 1 / 65 * m * (1 / 65 * m) = 1 / 4225 * (m * m) := by grind
  rw [e4]
  clear e1 e2 e3 e4 i1 k1 ii ll
  generalize m * m = mm at *
  generalize hIA : I * A = q at *
  have k5 : I * (4096 * (A * B - D * D) - A * B) = 4096 * (I * (A * B - D * D)) - I * A * B := by grind
  rw [k5, hIA] at k3
  generalize I * (A * B - D * D) = r at *
  clear h a0
  grind
end Go.Proofs.YtgngdkjghdohiaaGreat
end
section
namespace Go.Proofs.YtgngdkjghdohiaaGreat
open Go Go.Mach Ieee P3
set_option linter.unusedVariables false

theorem turned_near {w x y z a b c : Fl} {M l : Rat} (hR : Room M) (h : allFin [w, x, y, z] = true) (hU : Un (rv w) (rv x) (rv y) (rv z)) (fa : finF a = true) (fb : finF b = true) (fc : finF c = true) (ba : Bd (rv a) M) (bb : Bd (rv b) M) (bc : Bd (rv c) M) (hl : M <= (1 + 20 * uu) * l) :
    allFin [t0 w x y z a b c, t1 w x y z a b c, t2 w x y z a b c] = true /\ NB ((p3 (t0 w x y z a b c) (t1 w x y z a b c) (t2 w x y z a b c)).sub (Rot (rv w) (rv x) (rv y) (rv z) (p3 a b c))) (190 * uu * l) := by
  obtain ⟨q0, q1, q2⟩ := turn_full hR h hU.n fa fb fc ba bb bc
  have hM := hR.1
  have hN : Bd (Nq (rv w) (rv x) (rv y) (rv z) - 1) (32 * uu) := Bd.mono hU (by grind)
  obtain ⟨n1, n2⟩ := cyc_n (rv w) (rv x) (rv y) (rv z)
  have key : ∀ {t p q r e X Y Z : Rat}, Bd (t - T0 e X Y Z p q r) (75 * uu * M) -> Bd p M -> Nq e X Y Z = Nq (rv w) (rv x) (rv y) (rv z) -> Bd (t - R0 e X Y Z p q r) (107 * uu * M) := by
    intro t p q r e X Y Z h1 h2 h3
    rw [T0_R0] at h1
    have h4 : e * e + X * X + Y * Y + Z * Z = Nq e X Y Z := rfl
    rw [h4, h3] at h1
    have h5 := hN.mul h2
    generalize (Nq (rv w) (rv x) (rv y) (rv z) - 1) * p = k at *
    obtain ⟨a1, a2⟩ := h1
    obtain ⟨a3, a4⟩ := h5
    exact ⟨by grind, by grind⟩
  refine ⟨allFin3x q0.1 q1.1 q2.1, (P3.NB.of (e := 107 * uu * M) ?_ ?_ ?_).mono (by grind)⟩
  · exact key q0.2 ba rfl
  · exact key q1.2 bb n1
  · exact key q2.2 bc n2
theorem turned_len {w x y z : Rat} {a u : P3} {l : Rat} (hN : Bd (Nq w x y z - 1) (32 * uu)) (l0 : 0 < l) (h1 : Len a ((1 - 19 * uu) * l) ((1 + 19 * uu) * l)) (hu : NB (u.sub (Rot w x y z a)) (190 * uu * l)) : Len u ((1 - 242 * uu) * l) ((1 + 242 * uu) * l) := by
  have hN0 : 0 <= Nq w x y z := by have := hN.1; grind
  have h2 := h1.rot (w := w) (x := x) (y := y) (z := z) hN0
  have e1 : Nq w x y z * ((1 - 19 * uu) * l) = (1 - 19 * uu) * (Nq w x y z * l) := by grind
  have e2 : Nq w x y z * ((1 + 19 * uu) * l) = (1 + 19 * uu) * (Nq w x y z * l) := by grind
  obtain ⟨n1, n2⟩ := n_mul hN (Rat.le_of_lt l0)
  rw [e1, e2] at h2
  have h3 : Len (Rot w x y z a) ((1 - 52 * uu) * l) ((1 + 52 * uu) * l) := h2.mono (by grind) (by generalize Nq w x y z * l = k at *; grind) (by generalize Nq w x y z * l = k at *; grind)
  exact (h3.near hu (by grind)).mono (by grind) (by grind) (by grind)
theorem Len.dot_pos {p : P3} {lo hi : Rat} (h : Len p lo hi) (h0 : 0 < lo) : 0 < p.dot p := by
  have := Rat.mul_pos h0 h0
  have := h.2.1
  grind
theorem Ax.kap {P Q : P3} {l m h : Rat} {f U1 U2 U3 : P3} (H : Ax P Q l m h f U1 U2 U3) : NB U1 kap /\ NB U2 kap /\ NB U3 kap :=
  ⟨(H.e1.2.2.le H.u1).mono (by grind), (H.e2.2.2.le H.n2).mono (by grind), ((H.e1.2.2.crs H.e2.2.2).le H.n3).mono (by grind)⟩
theorem ap_ent {x : Fl} {s r R : Rat} (h : Ap x s (10 * uu)) (g : Bd (s - r) (117000 * uu)) (e : r = R) : Ap x R (118000 * uu) := h.to (by rw [<- e]; exact g) (by grind)
set_option maxHeartbeats 1600000 in
theorem finds_core {N : Nat} (hN : 1000 <= N) {w x y z a b c p q r : Fl} (hA : allFin [w, x, y, z] = true) (w1 : FW x) (w2 : FW y) (w3 : FW z) (hU : Un (rv w) (rv x) (rv y) (rv z)) (wa : FW a) (wb : FW b) (wc : FW c) (wp : FW p) (wq : FW q) (wr : FW r)
    (fa : finF a = true) (fb : finF b = true) (fc : finF c = true) (fp : finF p = true) (fq : finF q = true) (fr : finF r = true) (ua : Us (rv a)) (ub : Us (rv b)) (uc : Us (rv c)) (up : Us (rv p)) (uq : Us (rv q)) (ur : Us (rv r))
    (hA0 : 0 < (p3 a b c).dot (p3 a b c)) (hB0 : 0 < (p3 p q r).dot (p3 p q r)) (hl : (p3 a b c).dot (p3 a b c) * (p3 p q r).dot (p3 p q r) <= 4096 * ((p3 a b c).dot (p3 a b c) * (p3 p q r).dot (p3 p q r) - (p3 a b c).dot (p3 p q r) * (p3 a b c).dot (p3 p q r))) :
    ∃ u0 u1 u2 v0 v1 v2 j0 j1 j2 j3 d : Fl, (∀ κ, sZ38 N w x y z a b c κ = κ u0 u1 u2 0) /\ (∀ κ, sZ38 N w x y z p q r κ = κ v0 v1 v2 0) /\ (∀ κ, sZ59 N u0 u1 u2 v0 v1 v2 a b c p q r κ = κ j0 j1 j2 j3 0) /\ (∀ κ, sZ33 N w x y z j0 j1 j2 j3 κ = κ d 0) /\ finF d = true /\ rv d <= 6300000 * uu := by
  have hNN : Bd (Nq (rv w) (rv x) (rv y) (rv z) - 1) (32 * uu) := Bd.mono hU (by grind)
  have hN0 : 0 <= Nq (rv w) (rv x) (rv y) (rv z) := by have := hNN.1; grind
  obtain ⟨M, M0, ba, bb, bc, hM2, hMj⟩ := three_max (rv a) (rv b) (rv c)
  obtain ⟨M1, M2⟩ := us_max ua ub uc M0 ba bb bc hMj hA0
  obtain ⟨K, K0, bp, bq, br, hK2, hKj⟩ := three_max (rv p) (rv q) (rv r)
  obtain ⟨K1, K2⟩ := us_max up uq ur K0 bp bq br hKj hB0
  have hRM := us_room M1 (by grind)
  have hRK := us_room K1 (by grind)
  have hA2 : M * M <= (p3 a b c).dot (p3 a b c) := hM2
  have hB2 : K * K <= (p3 p q r).dot (p3 p q r) := hK2
  have hSa : 1 / 1329227995784915872903807060280344576 <= (p3 a b c).dot (p3 a b c) := by
    have := Rat.mul_nonneg (by grind : 0 <= M - 1 / 1048576) (by grind : 0 <= M + 1 / 1048576)
    grind
  have hSb : 1 / 1329227995784915872903807060280344576 <= (p3 p q r).dot (p3 p q r) := by
    have := Rat.mul_nonneg (by grind : 0 <= K - 1 / 1048576) (by grind : 0 <= K + 1 / 1048576)
    grind
  obtain ⟨g, fg, g0, hg, -⟩ := length_near hN fp fq fr wp wq wr (T := K) (by grind) bp bq br hSb
  have hgl := len_of (p := p3 p q r) g0 hg
  generalize hgg : rv g = γ at *
  clear hgg fg
  have hQ : NB (p3 p q r) ((1 + 19 * uu) * γ) := hgl.2.2
  have hQlen : Len (p3 p q r) 0 (174 / 100 * K) := ⟨Rat.le_refl, by have := hB0; grind, P3.NB.of (p := p3 p q r) bp bq br⟩
  have hγ := (lam_of (p := p3 p q r) g0 hg hQlen).2
  have hKm : K <= (1 + 19 * uu) * γ := le_of_sq hQ.1 (Rat.le_trans hB2 hQ.2)
  have hmB : 9999 / 10000 * ((1 + 19 * uu) * γ * ((1 + 19 * uu) * γ)) <= (p3 p q r).dot (p3 p q r) := by
    refine Rat.le_trans ?_ hgl.2.1
    have := sq_nonneg γ
    have e1 : (1 + 19 * uu) * γ * ((1 + 19 * uu) * γ) = (1 + 19 * uu) * (1 + 19 * uu) * (γ * γ) := by grind
    have e2 : (1 - 19 * uu) * γ * ((1 - 19 * uu) * γ) = (1 - 19 * uu) * (1 - 19 * uu) * (γ * γ) := by grind
    rw [e1, e2]
    generalize γ * γ = k at *
    grind
  have hKγ := hKm
  have hγm : γ <= (1 + 19 * uu) * γ := by grind
  generalize hm : (1 + 19 * uu) * γ = m at hQ hKm hmB hγm
  have hm1 : 1 / 1048576 <= m := by grind
  have hm2 : m <= 2097152 := by grind
  clear hm hγ hQlen
  obtain ⟨l, h, f, x9, x10, x11, x12, x13, x14, x15, x16, x17, ⟨F1, F2, F3⟩, hB, hhm, hax⟩ := axes_near hN (c0 := 1 / 65) (T := 1048576) (M := K) (m := m) (by grind) (by grind) hRK fa fb fc wa wb wc (ba.mono M2) (bb.mono M2) (bc.mono M2) hSa fp fq fr bp bq br hQ hKm (by grind) (by grind)
    (fun l l0 ll => ⟨(1 + 19 * uu) * m, by grind, apart_line l0 ll hmB hl, (one_len l0 (len_of l0 ll)).2.2.crs hQ⟩)
  have l0 := hB.l0
  have h0 := hB.h0
  have hal := len_of l0 hB.ll
  have hMl : M <= (1 + 20 * uu) * l := by
    have := le_of_sq hal.2.2.1 (Rat.le_trans hA2 hal.2.2.2)
    grind
  have hlM := (lam_of l0 hB.ll (⟨Rat.le_refl, by have := hA0; grind, P3.NB.of (p := p3 a b c) ba bb bc⟩ : Len (p3 a b c) 0 (174 / 100 * M))).2
  obtain ⟨tu, hu⟩ := turned_near hRM hA hU fa fb fc ba bb bc hMl
  obtain ⟨tv, hvγ⟩ := turned_near (l := γ) hRK hA hU fp fq fr bp bq br (by grind)
  have hv := hvγ.mono (f := 190 * uu * m) (by grind)
  have hT1 := fun κ => lawZ38 hN hA (allFin3x fa fb fc) tu κ
  have hT2 := fun κ => lawZ38 hN hA (allFin3x fp fq fr) tv κ
  have wu0 : FW (t0 w x y z a b c) := FW_fadd _ _
  have wu1 : FW (t1 w x y z a b c) := FW_fadd _ _
  have wu2 : FW (t2 w x y z a b c) := FW_fadd _ _
  generalize t0 w x y z a b c = u0 at *
  generalize t1 w x y z a b c = u1 at *
  generalize t2 w x y z a b c = u2 at *
  generalize t0 w x y z p q r = v0 at *
  generalize t1 w x y z p q r = v1 at *
  generalize t2 w x y z p q r = v2 at *
  obtain ⟨fu0, fu1, fu2⟩ := fin3 tu
  obtain ⟨fv0, fv1, fv2⟩ := fin3 tv
  have hul := turned_len hNN l0 hal hu
  have hub := hul.2.2.mono (f := 4194304) (by grind)
  have hSu : 1 / 1329227995784915872903807060280344576 <= (p3 u0 u1 u2).dot (p3 u0 u1 u2) := by
    refine Rat.le_trans ?_ hul.2.1
    have : (1 / 1152921504606846976 : Rat) <= (1 - 242 * uu) * l := by grind
    have h2 := Rat.mul_nonneg ((Rat.le_iff_sub_nonneg _ _).1 this) (by grind : 0 <= (1 - 242 * uu) * l + 1 / 1152921504606846976)
    grind
  have hE1 := hB.e1
  have hX := hB.x
  have hmh := hB.mh
  have hvb : NB (p3 v0 v1 v2) (1001 / 1000 * m) := (rel_two hNN (ρ := 1) (E := P3.scl (1 / l) (p3 a b c)) (F := P3.scl 1 (Rot (rv w) (rv x) (rv y) (rv z) (P3.scl (1 / l) (p3 a b c)))) (by unfold Bd; grind) hE1.2.2 (by
    have i : (P3.scl 1 (Rot (rv w) (rv x) (rv y) (rv z) (P3.scl (1 / l) (p3 a b c)))).sub (P3.scl 1 (Rot (rv w) (rv x) (rv y) (rv z) (P3.scl (1 / l) (p3 a b c)))) = ⟨0, 0, 0⟩ := by
      generalize P3.scl 1 (Rot (rv w) (rv x) (rv y) (rv z) (P3.scl (1 / l) (p3 a b c))) = t
      apply P3.ext' <;> (unfold P3.sub; grind)
    rw [i]
    exact ⟨by grind, by unfold P3.dot; grind⟩) hQ hv).2
  have hRm := us_room (M := 1001 / 1000 * m) (by grind) (by grind)
  obtain ⟨l', h', f', x0, x1, x2, x3, x4, x5, x6, x7, x8, ⟨G1, G2, G3⟩, hW, -, hax'⟩ := axes_near hN (c0 := 1 / 67) (T := 4194304) (M := 1001 / 1000 * m) (m := 1001 / 1000 * m) Rat.le_refl (by grind) hRm fu0 fu1 fu2 wu0 wu1 wu2 hub.x hub.y hub.z hSu fv0 fv1 fv2 hvb.x hvb.y hvb.z hvb Rat.le_refl (by grind) (by grind)
    (fun k k0 kk => by
      obtain ⟨hρ, hF, -⟩ := rel_one hNN l0 hB.ll k0 kk hu
      have hX' := rel_len hNN hρ h0 hX hmh (rel_two hNN hρ hE1.2.2 hF hQ hv).1
      exact ⟨_, hX'.mono (by grind) (by grind) Rat.le_refl⟩)
  have e0 := dir_zero fu0 fu1 fu2 (by grind)
  have e1 : dirE v0 v1 v2 = 0 := by
    refine dir_zero fv0 fv1 fv2 (Len.dot_pos (lo := (1 - 242 * uu) * γ) (hi := (1 + 242 * uu) * γ) ?_ (by grind))
    exact turned_len hNN g0 hgl hvγ
  have e2 := dir_zero fa fb fc hA0
  have e3 := dir_zero fp fq fr hB0
  obtain ⟨f9, f10, f11⟩ := fin3 F1
  obtain ⟨f12, f13, f14⟩ := fin3 F2
  obtain ⟨f15, f16, f17⟩ := fin3 F3
  obtain ⟨g0', g1, g2⟩ := fin3 G1
  obtain ⟨g3, g4, g5⟩ := fin3 G2
  obtain ⟨g6, g7, g8⟩ := fin3 G3
  obtain ⟨k1, k2, k3⟩ := hB.kap
  obtain ⟨n1, n2, n3⟩ := hW.kap
  have m0 := entF_near g0' f9 g3 f12 g6 f15 n1.x k1.x n2.x k2.x n3.x k3.x
  have m1 := entF_near g0' f10 g3 f13 g6 f16 n1.x k1.y n2.x k2.y n3.x k3.y
  have m2 := entF_near g0' f11 g3 f14 g6 f17 n1.x k1.z n2.x k2.z n3.x k3.z
  have m3 := entF_near g1 f9 g4 f12 g7 f15 n1.y k1.x n2.y k2.x n3.y k3.x
  have m4 := entF_near g1 f10 g4 f13 g7 f16 n1.y k1.y n2.y k2.y n3.y k3.y
  have m5 := entF_near g1 f11 g4 f14 g7 f17 n1.y k1.z n2.y k2.z n3.y k3.z
  have m6 := entF_near g2 f9 g5 f12 g8 f15 n1.z k1.x n2.z k2.x n3.z k3.x
  have m7 := entF_near g2 f10 g5 f13 g8 f16 n1.z k1.y n2.z k2.y n3.z k3.y
  have m8 := entF_near g2 f11 g5 f14 g8 f17 n1.z k1.z n2.z k2.z n3.z k3.z
  have hov : ovrs x0 x1 x2 x3 x4 x5 x6 x7 x8 x9 x10 x11 x12 x13 x14 x15 x16 x17 = false := by
    unfold ovrs
    rw [m0.1, m1.1, m2.1, m3.1, m4.1, m5.1, m6.1, m7.1, m8.1]
  have tri := fun κ => law_TriadQ hN e0 e1 e2 e3 hax' hax hov κ
  have tx : NB ⟨1, 0, 0⟩ 1 := ⟨by grind, by unfold P3.dot; grind⟩
  have ty : NB ⟨0, 1, 0⟩ 1 := ⟨by grind, by unfold P3.dot; grind⟩
  have tz : NB ⟨0, 0, 1⟩ 1 := ⟨by grind, by unfold P3.dot; grind⟩
  have dx : ∀ p : P3, p.dot ⟨1, 0, 0⟩ = p.x := fun p => by unfold P3.dot; grind
  have dy : ∀ p : P3, p.dot ⟨0, 1, 0⟩ = p.y := fun p => by unfold P3.dot; grind
  have dz : ∀ p : P3, p.dot ⟨0, 0, 1⟩ = p.z := fun p => by unfold P3.dot; grind
  have en := fun {s g : P3 -> Rat} (hs : Sel s) (hg : Sel g) (t : P3) (ht : NB t 1) (hgt : ∀ p : P3, p.dot t = g p) => entry hNN hB hW Rat.le_refl hu hv hs hg t ht hgt
  obtain ⟨r00, r01, r02⟩ := row_bd (rv w) (rv x) (rv y) (rv z)
  obtain ⟨r10, r11, r12⟩ := row_bd (rv w) (rv y) (rv z) (rv x)
  obtain ⟨r20, r21, r22⟩ := row_bd (rv w) (rv z) (rv x) (rv y)
  obtain ⟨c1, c2⟩ := cyc_n (rv w) (rv x) (rv y) (rv z)
  rw [c1] at r10 r11 r12
  rw [c2] at r20 r21 r22
  have hk : Nq (rv w) (rv x) (rv y) (rv z) <= kap := by have := hNN.2; grind
  have fnd := from_near hN hA hU ⟨ap_ent m0.2 (en sel_x sel_x _ tx dx) (by unfold Rot R0; grind), r00.mono hk⟩ ⟨ap_ent m1.2 (en sel_x sel_y _ ty dy) (by unfold Rot R0; grind), r01.mono hk⟩ ⟨ap_ent m2.2 (en sel_x sel_z _ tz dz) (by unfold Rot R0; grind), r02.mono hk⟩
    ⟨ap_ent m3.2 (en sel_y sel_x _ tx dx) (by unfold Rot R0; grind), r12.mono hk⟩ ⟨ap_ent m4.2 (en sel_y sel_y _ ty dy) (by unfold Rot R0; grind), r10.mono hk⟩ ⟨ap_ent m5.2 (en sel_y sel_z _ tz dz) (by unfold Rot R0; grind), r11.mono hk⟩
    ⟨ap_ent m6.2 (en sel_z sel_x _ tx dx) (by unfold Rot R0; grind), r21.mono hk⟩ ⟨ap_ent m7.2 (en sel_z sel_y _ ty dy) (by unfold Rot R0; grind), r22.mono hk⟩ ⟨ap_ent m8.2 (en sel_z sel_z _ tz dz) (by unfold Rot R0; grind), r20.mono hk⟩
  obtain ⟨j0, j1, j2, j3, -, u4, hj, Q, cc, hw, hx, hy, hz, hc, ⟨q0, q1, q2, q3⟩, ⟨d0, d1, d2, d3⟩⟩ := fnd
  obtain ⟨d, fd, hd, hap⟩ := apart_ofB hN hA hU w1 w2 w3 u4 hc q0 q1 q2 q3 d0 d1 d2 d3
  exact ⟨u0, u1, u2, v0, v1, v2, j0, j1, j2, j3, d, hT1, hT2, fun κ => by rw [tri]; exact hj κ, hap, fd, hd⟩
end Go.Proofs.YtgngdkjghdohiaaGreat
end
section
namespace Go.Proofs.YtgngdkjghdohiaaGreat
open Go Go.Mach Ieee P3
set_option linter.unusedVariables false

theorem dotv_rv {a b c p q r : Fl} (h : FinL [a, b, c] 3) (g : FinL [p, q, r] 3) : ((dotVal [a, b, c] [p, q, r] 3 : Int) : Rat) * Ue (Sc + Sc) = (p3 a b c).dot (p3 p q r) := by
  have f0 := val_rv (h 0 (by decide)).1
  have f1 := val_rv (h 1 (by decide)).1
  have f2 := val_rv (h 2 (by decide)).1
  have g0 := val_rv (g 0 (by decide)).1
  have g1 := val_rv (g 1 (by decide)).1
  have g2 := val_rv (g 2 (by decide)).1
  rw [dot_rv 2 (h.mono (by decide)) (g.mono (by decide)), dot_rv 1 (h.mono (by decide)) (g.mono (by decide)), dot_rv 0 (h.mono (by decide)) (g.mono (by decide)), dot0_rv, f0, f1, f2, g0, g1, g2, Rat.zero_add]
  rfl
theorem line_rat {A B D U : Rat} {a b d : Int} (hU : 0 < U) (hA : (a : Rat) * U = A) (hB : (b : Rat) * U = B) (hD : (d : Rat) * U = D) (hA0 : 0 <= A) (hB0 : 0 <= B) (h0 : a * b ≠ 0) (h : a * b <= (a * b - d * d) * 4096) : 0 < A /\ 0 < B /\ A * B <= 4096 * (A * B - D * D) := by
  have h1 := Rat.intCast_le_intCast.2 h
  rw [Rat.intCast_mul, Rat.intCast_mul, Rat.intCast_sub, Rat.intCast_mul, Rat.intCast_mul, show ((4096 : Int) : Rat) = 4096 from rfl] at h1
  have ha : (a : Rat) ≠ 0 := fun e => h0 (by rw [Rat.intCast_eq_zero_iff.1 e, Int.zero_mul])
  have hb : (b : Rat) ≠ 0 := fun e => h0 (by rw [Rat.intCast_eq_zero_iff.1 e, Int.mul_zero])
  generalize (a : Rat) = x at *
  generalize (b : Rat) = y at *
  generalize (d : Rat) = z at *
  have hU0 : U ≠ 0 := by grind
  have nz : ∀ {t T : Rat}, t * U = T -> t ≠ 0 -> 0 <= T -> 0 < T := by
    intro t T e ht hT
    rcases Rat.le_iff_lt_or_eq.1 hT with k | k
    · exact k
    · exfalso
      rw [<- k] at e
      rcases Rat.mul_eq_zero.1 e with j | j
      · exact ht j
      · exact hU0 j
  refine ⟨nz hA ha hA0, nz hB hb hB0, ?_⟩
  have h2 := Rat.mul_nonneg ((Rat.le_iff_sub_nonneg _ _).1 h1) (Rat.le_of_lt (Rat.mul_pos hU hU))
  rw [<- hA, <- hB, <- hD]
  grind
theorem ex12 : Ex 12 1 ((-12 : Int), (1 : Int)) /\ EV ((-12 : Int), (1 : Int)) 1 12 := ⟨⟨by decide, by decide, by show (1 : Int).natAbs < 2 ^ 1; decide⟩, ⟨by decide, by decide⟩⟩
theorem sgn_neg {z : Int} (h : 0 <= z) : decide (sgnI z < 0) = false := by
  apply decide_eq_false
  unfold sgnI
  split
  · decide
  · rw [if_neg (by omega)]; decide
theorem sgn_neg' {z : Int} (h : z < 0) : decide (sgnI z < 0) = true := by
  apply decide_eq_true
  unfold sgnI
  rw [if_neg (by omega), if_pos h]; decide
theorem law_AttitudeFinds {N : Nat} (hN : 1000 <= N) {q0 q1 q2 q3 x0 x1 x2 y0 y1 y2 : Int} (h0 : q0.toNat < 18446744073709551616) (h1 : q1.toNat < 18446744073709551616) (h2 : q2.toNat < 18446744073709551616) (h3 : q3.toNat < 18446744073709551616) (g0 : x0.toNat < 18446744073709551616) (g1 : x1.toNat < 18446744073709551616) (g2 : x2.toNat < 18446744073709551616) (i0 : y0.toNat < 18446744073709551616) (i1 : y1.toNat < 18446744073709551616) (i2 : y2.toNat < 18446744073709551616) (k : Bool -> Bool) :
    sZ37 N q0 q1 q2 q3 x0 x1 x2 y0 y1 y2 k = k true := by
  have hof : ∀ κ : Fl -> Fl -> Fl -> Fl -> Bool, sZ108 N (of64 [q0, q1, q2, q3]) κ = κ (canon q0.toNat) (canon q1.toNat) (canon q2.toNat) (canon q3.toNat) := fun _ => rfl
  have hv : ∀ (x y z : Int) (κ : Fl -> Fl -> Fl -> Bool), sZ107 N x y z κ = κ (canon x.toNat) (canon y.toNat) (canon z.toNat) := fun _ _ _ _ => rfl
  have w0 := canon_FW h0
  have w1 := canon_FW h1
  have w2 := canon_FW h2
  have w3 := canon_FW h3
  have va := canon_FW g0
  have vb := canon_FW g1
  have vc := canon_FW g2
  have vp := canon_FW i0
  have vq := canon_FW i1
  have vr := canon_FW i2
  unfold sZ37 GZ37
  rw [law_Of64 _ (small_of hN (Nat.le_of_ble_eq_true rfl)), hof, hv, hv]
  generalize canon q0.toNat = w at *
  generalize canon q1.toNat = x at *
  generalize canon q2.toNat = y at *
  generalize canon q3.toNat = z at *
  generalize canon x0.toNat = a at *
  generalize canon x1.toNat = b at *
  generalize canon x2.toNat = c at *
  generalize canon y0.toNat = p at *
  generalize canon y1.toNat = q at *
  generalize canon y2.toNat = r at *
  have z1 : (((0 : Int) != 0) == false) = true := rfl
  have z2 : ((0 : Int) != 0) = false := rfl
  have b1 : ((!false) == false) = false := rfl
  have b2 : ((!true) == false) = true := rfl
  cases hA : allFin [w, x, y, z] with
  | false => rw [law_ref_Good_nf hN hA, b1, cond_false, law_awake hN]
  | true =>
  rw [law_ref_Good hN hA w0 w1 w2 w3]
  by_cases hgA : sgnI (offE w x y z) <= 0
  case neg => rw [decide_eq_false hgA, b1, cond_false, law_awake hN]
  have uA : Un (rv w) (rv x) (rv y) (rv z) := good_rv (finL4 hA w0 w1 w2 w3) hgA
  rw [decide_eq_true hgA, b2, cond_true, law_usual hN]
  cases hu1 : (usB a && (usB b && usB c)) with
  | false => rw [b1, cond_false, law_awake hN]
  | true =>
  rw [b2, cond_true, law_usual hN]
  cases hu2 : (usB p && (usB q && usB r)) with
  | false => rw [Bool.not_false, cond_true, law_awake hN]
  | true =>
  rw [Bool.and_eq_true, Bool.and_eq_true] at hu1 hu2
  obtain ⟨fa, ua⟩ := us_ok va hu1.1
  obtain ⟨fb, ub⟩ := us_ok vb hu1.2.1
  obtain ⟨fc, uc⟩ := us_ok vc hu1.2.2
  obtain ⟨fp, up⟩ := us_ok vp hu2.1
  obtain ⟨fq, uq⟩ := us_ok vq hu2.2.1
  obtain ⟨fr, ur⟩ := us_ok vr hu2.2.2
  have La := finL3 (allFin3x fa fb fc) va vb vc
  have Lp := finL3 (allFin3x fp fq fr) vp vq vr
  have ea := ofE_Ex fa
  have eb := ofE_Ex fb
  have ec := ofE_Ex fc
  have ep := ofE_Ex fp
  have eq' := ofE_Ex fq
  have er := ofE_Ex fr
  have XA := dotE_Ex (by decide) La La
  have XB := dotE_Ex (by decide) Lp Lp
  have XD := dotE_Ex (by decide) La Lp
  have VA := dotE_EV 3 La La
  have VB := dotE_EV 3 Lp Lp
  have VD := dotE_EV 3 La Lp
  rw [Bool.not_true, cond_false, law_exact hN fa fb fc va vb vc, law_exact hN fp fq fr vp vq vr]
  rw [law_dot1 hN ea eb ec, dqE_eq]
  unfold exK
  dsimp only
  rw [law_dot1 hN ep eq' er, dqE_eq]
  unfold exK
  dsimp only
  rw [law_ExMul hN XA XB (by omega) (by omega)]
  unfold exK
  dsimp only
  rw [law_dot2 hN ea eb ec ep eq' er, dqE_eq]
  unfold exK
  dsimp only
  have dA := dotv_rv La La
  have dB := dotv_rv Lp Lp
  have dD := dotv_rv La Lp
  generalize dotE [a, b, c] [a, b, c] 3 = A at *
  generalize dotE [p, q, r] [p, q, r] 3 = B at *
  generalize dotE [a, b, c] [p, q, r] 3 = D at *
  generalize dotVal [a, b, c] [a, b, c] 3 = sA at *
  generalize dotVal [p, q, r] [p, q, r] 3 = sB at *
  generalize dotVal [a, b, c] [p, q, r] 3 = sD at *
  have XM := XA.mul XB
  have VM := VA.mul VB
  have XQ := XD.mul XD
  have VQ := VD.mul VD
  rw [law_Sign_r]
  by_cases hz : (exMul A B).2.natAbs = 0
  · rw [if_pos hz, show (((0 : Int) == 0) == false) = false from rfl, cond_false, law_awake hN]
  have hne : (((if (exMul A B).2.natAbs = 0 then (0 : Int) else if decide ((exMul A B).2 < 0) = true then -1 else 1) == 0) == false) = true := by
    rw [if_neg hz]
    cases decide ((exMul A B).2 < 0) <;> rfl
  rw [hne, cond_true, mul_same, law_ExMul hN XD XD (by omega) (by omega)]
  unfold exK
  dsimp only
  rw [neg_ex hN XQ (by omega)]
  have hv0 : sA * sB ≠ 0 := by
    intro e
    apply hz
    have := VM.sgn
    rw [e] at this
    unfold sgnI at this
    by_cases h : (exMul A B).2 = 0
    · rw [h]; rfl
    · rw [if_neg h, if_pos rfl] at this
      split at this <;> cases this
  have hpow : ∀ κ : Bool -> List Int -> Bool, sZ23 N (-12) κ = κ false [1] := fun κ => by
    unfold sZ23 GZ23
    exact new_one hN κ
  have XS := (XM.add XQ.neg).mono (E' := 4500) (B' := 17300) (by omega) (by omega)
  have VS := VM.add VQ.neg
  have X12 := (XM.mul ex12.1).mono (E' := 4500) (B' := 17300) (by omega) (by omega)
  have V12 := VM.mul ex12.2
  rw [Int.mul_one] at V12
  have hm := fun κ => law_ExMul hN (XM.mono (E' := 4500) (B' := 8500) (by omega) (by omega)) (ex12.1.mono (E' := 4500) (B' := 8500) (by omega) (by omega)) (by omega) (by omega) κ
  rw [show decide (((-12 : Int), (1 : Int)).2 < 0) = false from rfl, show ((-12 : Int), (1 : Int)).2.natAbs = 1 from rfl, digs_one] at hm
  have hcm := fun κ => law_ExCmp hN XS X12 (by omega) κ
  have hsv := ((VS.up 12).add V12.neg).sgn
  rw [show (2 : Int) ^ 12 = 4096 by decide] at hsv
  have tail : ∀ T : Bool, (∀ (hc : sA * sB <= (sA * sB - sD * sD) * 4096), T = k true) -> cond (decide (sgnI (exAdd (exAdd (exMul A B) (exNeg (exMul D D))) (exNeg (exMul (exMul A B) (-12, 1)))).2 < 0)) (k true) T = k true := by
    intro T hT
    rw [hsv]
    by_cases hc : sA * sB <= (sA * sB - sD * sD) * 4096
    · rw [sgn_neg (by rw [Int.sub_eq_add_neg] at hc; omega), cond_false, hT hc]
    · rw [sgn_neg' (by rw [Int.sub_eq_add_neg] at hc; omega), cond_true]
  have fin : ∀ (hc : sA * sB <= (sA * sB - sD * sD) * 4096), ∃ u0 u1 u2 v0 v1 v2 j0 j1 j2 j3 d : Fl, (∀ κ, sZ38 N w x y z a b c κ = κ u0 u1 u2 0) /\ (∀ κ, sZ38 N w x y z p q r κ = κ v0 v1 v2 0) /\ (∀ κ, sZ59 N u0 u1 u2 v0 v1 v2 a b c p q r κ = κ j0 j1 j2 j3 0) /\ (∀ κ, sZ33 N w x y z j0 j1 j2 j3 κ = κ d 0) /\ finF d = true /\ rv d <= 6300000 * uu := by
    intro hc
    obtain ⟨l1, l2, l3⟩ := line_rat (Ue_pos _) dA dB dD (dot_nonneg _) (dot_nonneg _) hv0 hc
    exact finds_core hN hA w1 w2 w3 uA va vb vc vp vq vr fa fb fc fp fq fr ua ub uc up uq ur l1 l2 l3
  refine Eq.trans (law_ExAdd hN (XM.mono (E' := 4400) (B' := 8400) (by omega) (by omega)) XQ.neg (by omega) _ _ (fun e g l => sZ23 N (-12) (fun g2 l2 => sZ1 N (exMul A B).1 (-12) (decide ((exMul A B).2 < 0)) (digs (exMul A B).2.natAbs) g2 l2 (fun e3 g3 l3 => sZ4 N e e3 g l g3 l3 (fun n => cond (decide (n < 0)) (sZ55 N (fun cr => k cr)) (JZ128 N (sZ61 N) (sZ108 N) (sZ107 N) (sZ63 N) (sZ65 N) (sZ55 N) (sZ67 N) (sZ9 N) (sZ1 N) (sZ3 N) (sZ11 N) (sZ5 N) (sZ6 N) (sZ0 N) (sZ23 N) (sZ4 N) (sZ38 N) (sZ59 N) (sZ33 N) (sZ19 N) q0 q1 q2 q3 x0 x1 x2 y0 y1 y2 w x y z a b c p q r k))))) ?_ ?_) ?_
  · rfl
  · rfl
  unfold exK
  dsimp only
  rw [hpow, hm]
  unfold exK
  dsimp only
  rw [hcm, law_awake hN]
  refine tail _ fun hc => ?_
  obtain ⟨u0, u1, u2, v0, v1, v2, j0, j1, j2, j3, d, T1, T2, T3, T4, fd, hd⟩ := fin hc
  have hle : fle d c30n = true := (fle_rv fd c30n_val.1).2 (by rw [c30n_val.2]; grind)
  unfold JZ128
  rw [T1, T2, T3, z1, cond_true, cond_true, z2, cond_false, T4, show (((0 : Int) == 0) == true) = true from rfl, cond_true, ldexp_30n hN, hle, show (true == true) = true from rfl, cond_true, law_awake hN]
end Go.Proofs.YtgngdkjghdohiaaGreat
end
