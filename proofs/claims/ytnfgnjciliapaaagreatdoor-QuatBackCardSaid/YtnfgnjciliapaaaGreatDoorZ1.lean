/-
  BY CAYLEY AND BACK BY GIBBS.
  Conditions: tame vectors.
-/
import Derived.Test.YtnfgnjciliapaaaGreatDoorL3
import Derived.Test.YtnfgnjciliapaaaGreatDoorN16
import Derived.Test.YtnfgnjciliapaaaGreatDoorS0
section
namespace Go.Proofs.YtnfgnjciliapaaaGreatDoor
open Go Go.Mach Ieee
set_option linter.unusedVariables false
theorem Tm.amt {a : Rat} (h : Tm a) : ∃ α, 0 <= α /\ (a = α \/ a = -α) /\ (α = 0 \/ (tS <= α /\ α <= tG)) := by
 have hs := tS_pos
 rcases h with h | h | h
 ·exact ⟨0, Rat.le_refl, .inl h, .inl rfl⟩
 ·exact ⟨a, by grind, .inl rfl, .inr h⟩
 ·exact ⟨-a, by grind, .inr (by grind), .inr h⟩
theorem half_ok {α : Rat} (h : α = 0 \/ (tS <= α /\ α <= tG)) : α = 0 \/ (tau <= α / 2 /\ α / 2 <= Bg / 8) := by
 rcases h with h | ⟨h1, h2⟩
 ·exact .inl h
 ·right
  have a := tS_pos
  have b := tS_le
  have c := big_ok (c := 100) (by grind)
  have d := tG_pos
  have e := Rat.mul_nonneg (by grind : 0 <= 1 - tS) (by grind : 0 <= tS)
  unfold tau
  constructor <;> grind
theorem g_six {l0 l1 l2 l3 g : Rat} (hg : 0 < g) (hN : Bd (Nq (l0 / g) (l1 / g) (l2 / g) (l3 / g) - 1) (81 / 10 * uu)) (b0 : Bd l0 (202 / 100)) (b1 : Bd l1 (202 / 100)) (b2 : Bd l2 (202 / 100)) (b3 : Bd l3 (202 / 100)) : g <= 6 := by
 rcases (Rat.le_total : g <= 6 \/ 6 <= g) with k | k
 ·exact k
 ·exfalso
  have key : ∀ {l : Rat}, Bd l (202 / 100) -> l / g * (l / g) <= 34 / 100 * (34 / 100) := by
   intro l hl
   have hg0 : g ≠ 0 := by grind
   have e : l / g * g = l := by grind
   have : Bd (l / g) (34 / 100) := by
    generalize l / g = t at *
    subst e
    obtain ⟨c1, c2⟩ := hl
    constructor
    ·rcases (Rat.le_total : -(34 / 100) <= t \/ t <= -(34 / 100)) with k' | k'
     ·exact k'
     ·have := Rat.mul_nonneg (by grind : 0 <= -(34 / 100) - t) (by grind : 0 <= g)
      grind
    ·rcases (Rat.le_total : t <= 34 / 100 \/ 34 / 100 <= t) with k' | k'
     ·exact k'
     ·have := Rat.mul_nonneg (by grind : 0 <= t - 34 / 100) (by grind : 0 <= g)
      grind
   exact this.sq
  have k0 := key b0
  have k1 := key b1
  have k2 := key b2
  have k3 := key b3
  have := hN.1
  unfold Nq at this
  grind
theorem pz_tame {G z : Rat} (h1 : 1 <= G * z) (h2 : G * z <= 2) (hl : 1 <= G) (hg : G <= tG) (hz : 0 < z) : tS <= z /\ z <= 2 := by
 have a := Rat.mul_nonneg (by grind : 0 <= G - 1) (by grind : 0 <= z)
 have b := Rat.mul_nonneg (by grind : 0 <= tG - G) (by grind : 0 <= z)
 have c := tS_tG
 have d := tS_pos
 have e : 1 <= tG * z := by grind
 have f := Rat.mul_nonneg (by grind : 0 <= tG * z - 1) (by grind : 0 <= tS)
 have g : tS * (tG * z) = z := by rw [<- Rat.mul_assoc, c, Rat.one_mul]
 constructor <;> grind
theorem lo_sc {α z : Rat} (h : α = 0 \/ tS <= α) (hz : tS <= z) : α / 2 = 0 \/ 500 * tau <= α / 2 * z := by
 rcases h with h | h
 ·left; rw [h, Rat.div_def, Rat.zero_mul]
 ·right
  have a := tS_pos
  have b := Rat.mul_nonneg (by grind : 0 <= α - tS) (by grind : 0 <= z)
  have c := Rat.mul_nonneg (by grind : 0 <= tS) (by grind : 0 <= z - tS)
  unfold tau
  grind
theorem div_lo {p g : Rat} (h : 500 * tau <= p) (hg : 0 < g) (hg6 : g <= 6) : tau <= p / g := by
 have hg0 : g ≠ 0 := by grind
 have e : p / g * g = p := by grind
 have t := tau_pos
 generalize p / g = t at *
 rcases (Rat.le_total : tau <= t \/ t <= tau) with k | k
 ·exact k
 ·have a := Rat.mul_nonneg (by grind : 0 <= tau - t) (by grind : 0 <= g)
  have b := Rat.mul_nonneg (by grind : 0 <= tau) (by grind : 0 <= 6 - g)
  grind
theorem div_hi {p l g e : Rat} (hg : 0 < g) (h : Bd (l / g) kap) (hl : Bd (l - p) (e * p) \/ Bd (l - -p) (e * p)) (he : 0 <= e) (he2 : e <= 1 / 1000) (hp : 0 <= p) : p / g <= 2 := by
 have hg0 : g ≠ 0 := by grind
 have e1 : l / g * g = l := by grind
 have e2 : p / g * g = p := by grind
 generalize l / g = t at *
 generalize p / g = s at *
 rcases (Rat.le_total : s <= 2 \/ 2 <= s) with k | k
 ·exact k
 ·have a := Rat.mul_nonneg (by grind : 0 <= s - 2) (by grind : 0 <= g)
  obtain ⟨h1, h2⟩ := h
  have b := Rat.mul_nonneg (by grind : 0 <= kap - t) (by grind : 0 <= g)
  have c := Rat.mul_nonneg (by grind : 0 <= t + kap) (by grind : 0 <= g)
  have d := Rat.mul_nonneg (by grind : 0 <= 1 / 1000 - e) hp
  rcases hl with ⟨u, v⟩ | ⟨u, v⟩ <;> grind
theorem lw_bd {h z G L e α : Rat} (hb : Bd h G) (hz : 0 < z) (h2 : G * z <= 2) (hl : Bd (L - h * z) (uu * (G * z) + eta)) : Bd L (202 / 100) := by
 have zb : Bd z z := by unfold Bd; exact ⟨by grind, Rat.le_refl⟩
 have k := hb.mul zb
 have he := eta_le
 have he0 := eta_pos
 obtain ⟨a1, a2⟩ := k
 obtain ⟨b1, b2⟩ := hl
 generalize h * z = q at *
 generalize G * z = r at *
 constructor <;> grind
theorem quot_eq {a z g : Rat} (hz : z ≠ 0) (hg : g ≠ 0) : a / 2 * z / g * 2 / (1 * z / g) = a := by grind
theorem gibbs_one {x : Fl} {a α : Rat} {k : Int} {g c0 : Fl} (hg : 0 < rv g) (fg : finF g = true) (hg6 : rv g <= 6) (hk : -2000 <= k) (hz : tS <= pz k) (hz2 : pz k <= 2)
    (hx : Ra x (a / 2) (α / 2) (203 / 100 * uu)) (hα : α = 0 \/ (tS <= α /\ α <= tG)) (hq : Bd (rv (sclF x k) / rv g) kap) (f0 : finF c0 = true) (hc0 : Bd (rv c0 - 1 * pz k / rv g) (95 / 10 * uu * (1 * pz k / rv g))) (ha : a = α \/ a = -α) (h0 : 0 <= α) :
    finF (fmul (fdiv (sclF x k) g) (some 4611686018427387904)) = true /\ Ra (fdiv (fmul (fdiv (sclF x k) g) (some 4611686018427387904)) c0) a α (22 * uu) := by
  have hB := Bg_ge
  have tp := tau_pos
  have pz0 := pz_pos k
  have hgn : rv g ≠ 0 := by grind
  have hzn : pz k ≠ 0 := by grind
  have ht1 : tS <= 1 := tS_le
  have hts := tS_pos
  have lo := lo_sc (hα.imp id (fun h => h.1)) hz
  have hgb : α / 2 * pz k <= Bg / 2 \/ α / 2 = 0 := by
    rcases hα with h | ⟨h1, h2⟩
    · right; rw [h, Rat.div_def, Rat.zero_mul]
    · left
      have := big_ok (c := 1000) (by grind)
      have k1 := Rat.mul_nonneg (by grind : 0 <= α) (by grind : 0 <= 2 - pz k)
      have tg := tG_pos
      grind
  have s := hx.scl (by grind) hk (by
    rcases lo with h | h
    · exact .inl h
    · rcases hgb with h' | h'
      · right
        refine ⟨?_, h'⟩
        generalize α / 2 * pz k = q at *
        grind
      · exact .inl h')
  have s' := s.mono (δ := 31 / 10 * uu) (by grind)
  have hdv : α / 2 * pz k = 0 \/ (tau <= α / 2 * pz k / rv g /\ α / 2 * pz k / rv g <= Bg / 8) := by
    rcases lo with h | h
    · left; rw [h, Rat.zero_mul]
    · right
      refine ⟨div_lo h hg hg6, ?_⟩
      have := div_hi (e := 31 / 10 * uu) hg hq (by
        obtain ⟨-, q0, q1, q2⟩ := s'
        rcases q1 with q1 | q1
        · left; rw [q1] at q2; exact q2
        · right; rw [q1] at q2; exact q2) (by grind) (by grind) s'.2.1
      generalize α / 2 * pz k / rv g = q at *
      grind
  have d := Ra.div s' fg hg (by have : rv g - rv g = 0 := by grind
                                rw [this]; unfold Bd; grind) (by grind) (by grind) hdv
  have d' := d.mono (δ := 83 / 10 * uu) (by grind)
  have hd2 : α / 2 * pz k / rv g = 0 \/ (tau <= α / 2 * pz k / rv g /\ α / 2 * pz k / rv g <= Bg / 8) := by
    rcases hdv with h | h
    · left; rw [h, Rat.div_def, Rat.zero_mul]
    · exact .inr h
  have t := d'.dbl (by grind) hd2
  have t' := t.mono (δ := 95 / 10 * uu) (by grind)
  have hb : 0 < 1 * pz k / rv g := by
    rw [Rat.one_mul, Rat.div_def]
    exact Rat.mul_pos pz0 (Rat.inv_pos.2 hg)
  have eα : α / 2 * pz k / rv g * 2 / (1 * pz k / rv g) = α := quot_eq hzn hgn
  have ea : a / 2 * pz k / rv g * 2 / (1 * pz k / rv g) = a := quot_eq hzn hgn
  have w := Ra.div t' f0 hb hc0 (by grind) (by grind) (by
    rcases hα with h | ⟨h1, h2⟩
    · left; rw [h]
      have : (0 : Rat) / 2 = 0 := by rw [Rat.div_def, Rat.zero_mul]
      rw [this, Rat.zero_mul, Rat.div_def, Rat.zero_mul, Rat.zero_mul]
    · right
      rw [eα]
      have := big_ok (c := 100) (by grind)
      have tg := tG_pos
      have k1 := Rat.mul_nonneg (by grind : 0 <= 1 - tS) (by grind : 0 <= tS)
      constructor
      · unfold tau
        clear s s' d d' t t' hdv hd2 hq hx hc0 lo hgb hb eα ea
        grind
      · clear s s' d d' t t' hdv hd2 hq hx hc0 lo hgb hb eα ea
        grind)
  rw [ea, eα] at w
  exact ⟨t.1, w.mono (by grind)⟩
end Go.Proofs.YtnfgnjciliapaaaGreatDoor
end
section
namespace Go.Proofs.YtnfgnjciliapaaaGreatDoor
open Go Go.Mach Ieee
set_option linter.unusedVariables false
theorem rv_one : finF (some 4607182418800017408) = true /\ rv (some 4607182418800017408) = 1 := by
 obtain ⟨h, c1, c2⟩ := one_Ap
 exact ⟨h, by grind⟩
theorem half_Ra {v : Fl} {α : Rat} (fv : finF v = true) (hα : α = 0 \/ (tS <= α /\ α <= tG)) (ha : rv v = α \/ rv v = -α) (h0 : 0 <= α) : Ra (fdiv v (some 4611686018427387904)) (rv v / 2) (α / 2) (203 / 100 * uu) := by
 have hx : Ra v (rv v) α 0 := ⟨fv, h0, ha, by unfold Bd; grind⟩
 have e2 : rv (some 4611686018427387904) - 2 = 0 := by
  obtain ⟨-, c1, c2⟩ := two_Ap
  grind
 exact (Ra.div hx two_Ap.1 (by grind) (by rw [e2]; unfold Bd; grind) Rat.le_refl (by grind) (half_ok hα)).mono (by grind)
theorem half_le {h : Fl} {a α : Rat} (hx : Ra h a (α / 2) (203 / 100 * uu)) (hα : α = 0 \/ (tS <= α /\ α <= tG)) : Bd (rv h) tG := by
 have k := hx.bd (by grind)
 have g := tG_pos
 rcases hα with h | ⟨h1, h2⟩
 ·rw [h] at k
  have : (0 : Rat) / 2 = 0 := by rw [Rat.div_def, Rat.zero_mul]
  rw [this, Rat.mul_zero] at k
  exact k.mono (Rat.le_of_lt g)
 ·exact k.mono (by grind)
theorem g_one {G r0 r1 r2 r3 : Rat} (h0 : r0 = 1) (b1 : Bd r1 tG) (b2 : Bd r2 tG) (b3 : Bd r3 tG) (hb : Bd r0 G) (hj : r0 = G \/ r0 = -G \/ r1 = G \/ r1 = -G \/ r2 = G \/ r2 = -G \/ r3 = G \/ r3 = -G) (hG : 0 < G) : 1 <= G /\ G <= tG := by
 have t1 : 1 <= tG := by unfold tG; exact one_le_pow 400
 obtain ⟨a1, a2⟩ := b1
 obtain ⟨c1, c2⟩ := b2
 obtain ⟨d1, d2⟩ := b3
 obtain ⟨e1, e2⟩ := hb
 refine ⟨by grind, ?_⟩
 rcases hj with h | h | h | h | h | h | h | h <;> grind
theorem rv_inf {g : Fl} (h : finF g = false) : rv g = 0 := by
 have hv : vl g = 0 := by
  cases g with
  | none => rfl
  | some b =>
   cases hr : Ieee.double.read b with
   | number s m i => rw [finF_of hr] at h; cases h
   | infinity s => unfold vl; simp only [hr]
   | nan s f => unfold vl; simp only [hr]
 unfold rv
 rw [hv]
 exact Rat.zero_mul _
theorem cg {N : Nat} (hN : 1000 <= N) {a b c : Fl} (fa : finF a = true) (fb : finF b = true) (fc : finF c = true) (Ta : Tm (rv a)) (Tb : Tm (rv b)) (Tc : Tm (rv c)) :
    ∃ C0 C1 C2 C3 w0 w1 w2 : Fl, (∀ κ, sZ57 N a b c κ = κ C0 C1 C2 C3 0) /\ (∀ κ, sZ69 N C0 C1 C2 C3 κ = κ w0 w1 w2 0) /\ (FW w0 /\ FW w1 /\ FW w2) /\
      ∃ α β γ, (0 <= α /\ (rv a = α \/ rv a = -α)) /\ (0 <= β /\ (rv b = β \/ rv b = -β)) /\ (0 <= γ /\ (rv c = γ \/ rv c = -γ)) /\ Ra w0 (rv a) α (22 * uu) /\ Ra w1 (rv b) β (22 * uu) /\ Ra w2 (rv c) γ (22 * uu) := by
  obtain ⟨α, α0, α1, α2⟩ := Ta.amt
  obtain ⟨β, β0, β1, β2⟩ := Tb.amt
  obtain ⟨γ, γ0, γ1, γ2⟩ := Tc.amt
  have h1 := half_Ra fa α2 α1 α0
  have h2 := half_Ra fb β2 β1 β0
  have h3 := half_Ra fc γ2 γ1 γ0
  obtain ⟨o1, o2⟩ := rv_one
  have hall := allFin4' o1 h1.1 h2.1 h3.1
  have hne : rv (some 4607182418800017408) ≠ 0 := by rw [o2]; decide
  obtain ⟨k, g, G, hk, hq, -, hU, hg0, t0, t1, t2, t3, tN, G0, G1, G2, g0, g1, g2, g3, gj⟩ := unit_more hN FW_one (FW_fdiv a (some 4611686018427387904)) (FW_fdiv b (some 4611686018427387904)) (FW_fdiv c (some 4611686018427387904)) hall (.inl hne)
  obtain ⟨Gl, Gu⟩ := g_one o2 (half_le h1 α2) (half_le h2 β2) (half_le h3 γ2) g0 gj G0
  obtain ⟨z1, z2⟩ := pz_tame G1 G2 Gl Gu (pz_pos k)
  have hGz : Bd (G * pz k) Bg := by
    have := Bg_ge
    have := Rat.mul_pos G0 (pz_pos k)
    generalize G * pz k = q at *
    exact ⟨by grind, by grind⟩
  have zb : Bd (pz k) (pz k) := by have := pz_pos k; unfold Bd; exact ⟨by grind, Rat.le_refl⟩
  have sc : ∀ {x : Fl}, finF x = true -> Bd (rv x) G -> Bd (rv (sclF x k)) (202 / 100) := by
    intro x fx hb
    have hm := hb.mul zb
    exact lw_bd (e := 0) (α := 0) hb (pz_pos k) G2 (scl_near fx hk (hm.mono hGz.2) _ hm)
  have hg6 := g_six hg0 tN (sc o1 g0) (sc h1.1 g1) (sc h2.1 g2) (sc h3.1 g3)
  have hgn : rv g ≠ 0 := by grind
  have fq := fin4 hU.1
  have fg : finF g = true := by
    cases hh : finF g with
    | true => rfl
    | false =>
      exfalso
      exact hgn (rv_inf hh)
  have hx0 : Ra (some 4607182418800017408) 1 1 0 := ⟨o1, by decide, .inl rfl, by rw [o2]; unfold Bd; grind⟩
  have tp := tau_pos
  have htau : tau <= pz k := by
    have a1 := tS_pos
    have a2 := tS_le
    have a3 := Rat.mul_nonneg (by grind : 0 <= 1 - tS) (by grind : 0 <= tS)
    unfold tau
    grind
  have hB := Bg_ge
  have s0 := hx0.scl (by grind) hk (.inr (by rw [Rat.one_mul]; exact ⟨htau, by grind⟩))
  have s0' := s0.mono (δ := 11 / 10 * uu) (by grind)
  have d0 : Ra (fdiv (sclF (some 4607182418800017408) k) g) (1 * pz k / rv g) (1 * pz k / rv g) (201 / 100 * (11 / 10 * uu) + 203 / 100 * uu) := by
    refine Ra.div s0' fg hg0 (by have : rv g - rv g = 0 := by grind
                                 rw [this]; unfold Bd; grind) (by grind) (by grind) (.inr ⟨?_, ?_⟩)
    · refine div_lo ?_ hg0 hg6
      rw [Rat.one_mul]
      have a1 := tS_pos
      have a2 := tS_le
      have a3 := Rat.mul_nonneg (by grind : 0 <= 1 - tS) (by grind : 0 <= tS)
      unfold tau
      grind
    · have := div_hi (e := 11 / 10 * uu) hg0 t0.2 (.inl s0'.2.2.2) (by grind) (by grind) s0'.2.1
      generalize 1 * pz k / rv g = q at *
      grind
  have hc0 : Bd (rv (fdiv (sclF (some 4607182418800017408) k) g) - 1 * pz k / rv g) (95 / 10 * uu * (1 * pz k / rv g)) := (d0.mono (by grind)).2.2.2
  have w1 := gibbs_one hg0 fg hg6 hk z1 z2 h1 α2 t1.2 fq.1 hc0 α1 α0
  have w2 := gibbs_one hg0 fg hg6 hk z1 z2 h2 β2 t2.2 fq.1 hc0 β1 β0
  have w3 := gibbs_one hg0 fg hg6 hk z1 z2 h3 γ2 t3.2 fq.1 hc0 γ1 γ0
  have hC0 : feq (fdiv (sclF (some 4607182418800017408) k) g) (some 0) = false := by
    cases hh : feq (fdiv (sclF (some 4607182418800017408) k) g) (some 0) with
    | false => rfl
    | true =>
      exfalso
      have e0 := (feq_rv fq.1 rv_zero.1).1 hh
      rw [rv_zero.2] at e0
      have hp : 0 < 1 * pz k / rv g := by
        rw [Rat.one_mul, Rat.div_def]
        exact Rat.mul_pos (pz_pos k) (Rat.inv_pos.2 hg0)
      rw [e0] at hc0
      obtain ⟨q1, q2⟩ := hc0
      generalize 1 * pz k / rv g = q at *
      grind
  refine ⟨fdiv (sclF (some 4607182418800017408) k) g, fdiv (sclF (fdiv a (some 4611686018427387904)) k) g, fdiv (sclF (fdiv b (some 4611686018427387904)) k) g, fdiv (sclF (fdiv c (some 4611686018427387904)) k) g, _, _, _, fun κ => ?_, fun κ => ?_, ⟨FW_fdiv _ _, FW_fdiv _ _, FW_fdiv _ _⟩, α, β, γ, ⟨α0, α1⟩, ⟨β0, β1⟩, ⟨γ0, γ1⟩, w1.2, w2.2, w3.2⟩
  · have e : sZ57 N a b c κ = sZ62 N (some 4607182418800017408) (fdiv a (some 4611686018427387904)) (fdiv b (some 4611686018427387904)) (fdiv c (some 4611686018427387904)) κ := rfl
    rw [e, hq]
  · unfold sZ69 GZ69
    rw [law_good hN, hU.1, Bool.not_true, cond_false, hC0, cond_false, lawZ14 _ (small_of hN (Nat.le_of_ble_eq_true rfl)), allFin3x w1.1 w2.1 w3.1, Bool.not_true, cond_false]
    unfold sZ110 GZ110
    rw [lawZ14 _ (small_of hN (Nat.le_of_ble_eq_true rfl)), allFin3x w1.2.1 w2.2.1 w3.2.1]
    rfl
end Go.Proofs.YtnfgnjciliapaaaGreatDoor
end
section
namespace Go.Proofs.YtnfgnjciliapaaaGreatDoor
open Go Go.Mach Ieee
set_option linter.unusedVariables false
theorem Ap.to {x : Fl} {a b e d E : Rat} (h : Ap x a e) (g : Bd (a - b) d) (hE : e + d <= E) : Ap x b E := by
 obtain ⟨f, h1, h2⟩ := h
 obtain ⟨g1, g2⟩ := g
 exact ⟨f, by grind, by grind⟩
theorem no_zero2 {W X Y Z : Rat} (h : 38 / 10 <= Nq W X Y Z) {w x y z : Fl} (hw : Ap w W (230 * uu)) (hx : Ap x X (230 * uu)) (hy : Ap y Y (230 * uu)) (hz : Ap z Z (230 * uu)) : rv w ≠ 0 \/ rv x ≠ 0 \/ rv y ≠ 0 \/ rv z ≠ 0 := by
 rcases Classical.em (rv w = 0) with e0 | e0
 ·rcases Classical.em (rv x = 0) with e1 | e1
  ·rcases Classical.em (rv y = 0) with e2 | e2
   ·rcases Classical.em (rv z = 0) with e3 | e3
    ·exfalso
     have g0 := hw.2
     have g1 := hx.2
     have g2 := hy.2
     have g3 := hz.2
     rw [e0] at g0
     rw [e1] at g1
     rw [e2] at g2
     rw [e3] at g3
     have k0 := g0.sq
     have k1 := g1.sq
     have k2 := g2.sq
     have k3 := g3.sq
     have i : ∀ t : Rat, (0 - t) * (0 - t) = t * t := fun t => by grind
     rw [i] at k0 k1 k2 k3
     unfold Nq at h
     generalize W * W = a at *
     generalize X * X = b at *
     generalize Y * Y = c at *
     generalize Z * Z = d at *
     clear g0 g1 g2 g3 hw hx hy hz
     grind
    ·exact .inr (.inr (.inr e3))
   ·exact .inr (.inr (.inl e2))
  ·exact .inr (.inl e1)
 ·exact .inl e0
theorem nq4 {Q w x y z : Rat} (hQ : 6 / 25 <= Q * Q) (hN : Bd (Nq w x y z - 1) (1 / 1000)) : 38 / 10 <= Nq (4 * Q * w) (4 * Q * x) (4 * Q * y) (4 * Q * z) := by
 have e : Nq (4 * Q * w) (4 * Q * x) (4 * Q * y) (4 * Q * z) = 16 * (Q * Q) * Nq w x y z := by unfold Nq; grind
 rw [e]
 have := Rat.mul_nonneg (by grind : 0 <= Q * Q - 6 / 25) (by have := hN.1; grind : 0 <= Nq w x y z)
 have h1 := hN.1
 generalize Q * Q = q at *
 generalize Nq w x y z = n at *
 grind
theorem unit_of_k {N : Nat} (hN : 1000 <= N) {K0 K1 K2 K3 : Fl} {Q w x y z : Rat} (w0 : FW K0) (w1 : FW K1) (w2 : FW K2) (w3 : FW K3) (hU : Bd (Nq w x y z - 1) (1 / 1000)) (hQ : 6 / 25 <= Q * Q) (hQ2 : Bd Q kap)
  (h0 : Ap K0 (4 * Q * w) (230 * uu)) (h1 : Ap K1 (4 * Q * x) (230 * uu)) (h2 : Ap K2 (4 * Q * y) (230 * uu)) (h3 : Ap K3 (4 * Q * z) (230 * uu)) :
  ∃ j0 j1 j2 j3 : Fl, (FW j0 /\ FW j1 /\ FW j2 /\ FW j3) /\ U4 j0 j1 j2 j3 /\ (∀ κ, jq N K0 K1 K2 K3 κ = κ j0 j1 j2 j3 0) /\ ∃ c hw hx hy hz : Rat, Bd c (6 / 10) /\
   (Bd (hw - 4 * Q * w) (235 * uu) /\ Bd (hx - 4 * Q * x) (235 * uu) /\ Bd (hy - 4 * Q * y) (235 * uu) /\ Bd (hz - 4 * Q * z) (235 * uu)) /\
   (Bd (rv j0 - c * hw) (205 / 100 * uu) /\ Bd (rv j1 - c * hx) (205 / 100 * uu) /\ Bd (rv j2 - c * hy) (205 / 100 * uu) /\ Bd (rv j3 - c * hz) (205 / 100 * uu)) := by
 have hn4 := nq4 hQ hU
 have hn := no_zero2 hn4 h0 h1 h2 h3
 have hall := allFin4' h0.1 h1.1 h2.1 h3.1
 obtain ⟨bw, bx, bY, bz⟩ := Un_bd hU
 have p4 : ∀ {t : Rat}, Bd t kap -> Bd (4 * Q * t) (405 / 100) := by
  intro t ht
  have a : Bd (4 : Rat) 4 := by unfold Bd; grind
  exact ((a.mul hQ2).mul ht).mono (by grind)
 obtain ⟨k, g, G, hk, hq, hFW, hU4, hg0, t0, t1, t2, t3, tN, G0, G1, G2, g0, g1, g2, g3, gj⟩ := unit_more hN w0 w1 w2 w3 hall hn
 have hGl := g_two hn4 h0.2 h1.2 h2.2 h3.2 g0 g1 g2 g3 G0
 have b0 := (h0.bd (p4 bw)).mono (B := 41 / 10) (by grind)
 have b1 := (h1.bd (p4 bx)).mono (B := 41 / 10) (by grind)
 have b2 := (h2.bd (p4 bY)).mono (B := 41 / 10) (by grind)
 have b3 := (h3.bd (p4 bz)).mono (B := 41 / 10) (by grind)
 have hGu : G <= 41 / 10 := by
  clear hn4 hn hall hq hFW hU4 t0 t1 t2 t3 tN h0 h1 h2 h3 hU hQ
  obtain ⟨w0a, w0b⟩ := b0
  obtain ⟨w1a, w1b⟩ := b1
  obtain ⟨w2a, w2b⟩ := b2
  obtain ⟨w3a, w3b⟩ := b3
  rcases gj with h | h | h | h | h | h | h | h <;> grind
 obtain ⟨z1, z5⟩ := z_bd2 G1 G2 hGl hGu (pz_pos k)
 have hz0 : pz k ≠ 0 := by have := pz_pos k; grind
 have hgg : rv g ≠ 0 := by intro h; rw [h] at hg0; exact absurd hg0 (by decide)
 have q0 := h_near h0 (p4 bw) hk z1 z5
 have q1 := h_near h1 (p4 bx) hk z1 z5
 have q2 := h_near h2 (p4 bY) hk z1 z5
 have q3 := h_near h3 (p4 bz) hk z1 z5
 have c0 : pz k / rv g * (rv (sclF K0 k) / pz k) = rv (sclF K0 k) / rv g := by grind
 have c1 : pz k / rv g * (rv (sclF K1 k) / pz k) = rv (sclF K1 k) / rv g := by grind
 have c2 : pz k / rv g * (rv (sclF K2 k) / pz k) = rv (sclF K2 k) / rv g := by grind
 have c3 : pz k / rv g * (rv (sclF K3 k) / pz k) = rv (sclF K3 k) / rv g := by grind
 have hNh : 3 <= Nq (rv (sclF K0 k) / pz k) (rv (sclF K1 k) / pz k) (rv (sclF K2 k) / pz k) (rv (sclF K3 k) / pz k) := by
  have := Nq_off (p4 bw) (p4 bx) (p4 bY) (p4 bz) q0 q1 q2 q3
  have := this.1
  generalize Nq (4 * Q * w) (4 * Q * x) (4 * Q * y) (4 * Q * z) = n at *
  generalize Nq (rv (sclF K0 k) / pz k) (rv (sclF K1 k) / pz k) (rv (sclF K2 k) / pz k) (rv (sclF K3 k) / pz k) = m at *
  grind
 have hcN : pz k / rv g * (pz k / rv g) * Nq (rv (sclF K0 k) / pz k) (rv (sclF K1 k) / pz k) (rv (sclF K2 k) / pz k) (rv (sclF K3 k) / pz k) = Nq (rv (sclF K0 k) / rv g) (rv (sclF K1 k) / rv g) (rv (sclF K2 k) / rv g) (rv (sclF K3 k) / rv g) := by
  rw [<- c0, <- c1, <- c2, <- c3]
  generalize pz k / rv g = c
  generalize rv (sclF K0 k) / pz k = a0
  generalize rv (sclF K1 k) / pz k = a1
  generalize rv (sclF K2 k) / pz k = a2
  generalize rv (sclF K3 k) / pz k = a3
  unfold Nq; grind
 refine ⟨_, _, _, _, hFW, hU4, fun κ => ?_, pz k / rv g, rv (sclF K0 k) / pz k, rv (sclF K1 k) / pz k, rv (sclF K2 k) / pz k, rv (sclF K3 k) / pz k, c_small hcN tN hNh, ⟨q0, q1, q2, q3⟩, ?_⟩
 ·unfold jq
  rw [hall, Bool.not_true, cond_false, hq]
 ·rw [c0, c1, c2, c3]; exact ⟨t0.1, t1.1, t2.1, t3.1⟩
theorem one3 {a b c : Rat} (h0 : 0 <= a) (h1 : 0 <= b) (h2 : 0 <= c) (h : 1 <= a \/ 1 <= b \/ 1 <= c) : 1 <= a + b + c := by
 rcases h with h | h | h <;> grind
theorem le_amt {r G e : Rat} (h : r = G \/ r = -G) (hb : Bd r e) : G <= e := by
 obtain ⟨a, b⟩ := hb
 rcases h with h | h <;> grind
theorem length_small {N : Nat} (hN : 1000 <= N) {X Y Z : Fl} (fX : finF X = true) (fY : finF Y = true) (fZ : finF Z = true) (wX : FW X) (wY : FW Y) (wZ : FW Z) (bX : Bd (rv X) (600 * uu)) (bY : Bd (rv Y) (600 * uu)) (bZ : Bd (rv Z) (600 * uu)) :
  ∃ d, finF d = true /\ rv d <= 4000 * uu /\ ∀ κ, sZ120 N [X, Y, Z] κ = κ d 0 := by
 have hl : [X, Y, Z].length <= 48 := le3 X Y Z
 have hS : Small N [X, Y, Z].length := small_of hN hl
 have d1 : decide ((([X, Y, Z].length : Nat) : Int) > 48) = false := dec_false (by simp)
 have n0 : ((0 : Int) != 0) = false := by decide
 have ha := allFin3x fX fY fZ
 have hf := finW_of (FW3 wX wY wZ) ha
 obtain ⟨hm, hmw⟩ := most_fin hf [X, Y, Z].length (Nat.le_refl _)
 have q1 : ∀ κ, sZ120 N [X, Y, Z] κ = sZ123 N [X, Y, Z] (fun xr => cond (!finF xr) (κ (some 0) 5) (κ xr 0)) := by
  intro κ
  unfold sZ120 GZ120 sZ149 GZ149
  rw [d1, cond_false, law_Finite [X, Y, Z] hS, ha]
  dsimp only
  rw [Bool.not_true, cond_false, n0, cond_false]
  simp only [sZ130, GZ130, fin_eq]
 cases h0 : feq (mostF [X, Y, Z] [X, Y, Z].length) (some 0) with
 | true =>
  refine ⟨some 0, rv_zero.1, by rw [rv_zero.2]; grind, fun κ => ?_⟩
  rw [q1]
  unfold sZ123 GZ123
  rw [lawZ136 hN hl, h0, cond_true]
  rfl
 | false =>
  obtain ⟨fr, e, he, he1, he2, hfin, j, hj, hge⟩ := scl_rat (N := N) hf h0
  obtain ⟨fr', e', he', -, -, G, G0, G1, G2, G3, j', hj', hge'⟩ := scl_great (N := N) hf h0
  have hee := frexp_same he he'
  subst hee
  obtain ⟨f0, b0⟩ := hfin 0 (Nat.le_of_ble_eq_true rfl)
  obtain ⟨f1, b1⟩ := hfin 1 (Nat.le_of_ble_eq_true rfl)
  obtain ⟨f2, b2⟩ := hfin 2 (Nat.le_of_ble_eq_true rfl)
  have f0 : finF (sclF X (1 - e)) = true := f0
  have f1 : finF (sclF Y (1 - e)) = true := f1
  have f2 : finF (sclF Z (1 - e)) = true := f2
  have b0 : Bd (rv (sclF X (1 - e))) 3 := b0
  have b1 : Bd (rv (sclF Y (1 - e))) 3 := b1
  have b2 : Bd (rv (sclF Z (1 - e))) 3 := b2
  have z0 := sq_nonneg (rv (sclF X (1 - e)))
  have z1 := sq_nonneg (rv (sclF Y (1 - e)))
  have z2 := sq_nonneg (rv (sclF Z (1 - e)))
  have r0 := b0.sq
  have r1 := b1.sq
  have r2 := b2.sq
  have hone : 1 <= rv (sclF X (1 - e)) * rv (sclF X (1 - e)) + rv (sclF Y (1 - e)) * rv (sclF Y (1 - e)) + rv (sclF Z (1 - e)) * rv (sclF Z (1 - e)) := by
   match j, hj, hge with
   | 0, _, h =>
    have h : 1 <= rv (sclF X (1 - e)) * rv (sclF X (1 - e)) := h
    exact one3 z0 z1 z2 (.inl h)
   | 1, _, h =>
    have h : 1 <= rv (sclF Y (1 - e)) * rv (sclF Y (1 - e)) := h
    exact one3 z0 z1 z2 (.inr (.inl h))
   | 2, _, h =>
    have h : 1 <= rv (sclF Z (1 - e)) * rv (sclF Z (1 - e)) := h
    exact one3 z0 z1 z2 (.inr (.inr h))
  have hG : G <= 600 * uu := by
   match j', hj', hge' with
   | 0, _, h =>
    have h : rv X = G \/ rv X = -G := h
    exact le_amt h bX
   | 1, _, h =>
    have h : rv Y = G \/ rv Y = -G := h
    exact le_amt h bY
   | 2, _, h =>
    have h : rv Z = G \/ rv Z = -G := h
    exact le_amt h bZ
  obtain ⟨n1, n2⟩ := len3_near f0 f1 f2 b0 b1 b2
  have hsum : sumSq (scl [X, Y, Z] (0 - (e - 1))) [X, Y, Z].length = fadd (fadd (fadd (some 0) (fmul (sclF X (1 - e)) (sclF X (1 - e)))) (fmul (sclF Y (1 - e)) (sclF Y (1 - e)))) (fmul (sclF Z (1 - e)) (sclF Z (1 - e))) := by
   rw [show (0 - (e - 1) : Int) = 1 - e by omega]; rfl
  have hg : NN (fsqrt (sumSq (scl [X, Y, Z] (0 - (e - 1))) [X, Y, Z].length)) := NN_fsqrt (NN_sumSq hf _ _ (Nat.le_refl _))
  have s1 := fun κ => ldexp_NN N hg (e := e - 1) (by omega) (by omega) κ
  have r1' : ∀ κ, sZ120 N [X, Y, Z] κ = (fun xr => cond (!finF xr) (κ (some 0) 5) (κ xr 0)) (sclF (fsqrt (sumSq (scl [X, Y, Z] (0 - (e - 1))) [X, Y, Z].length)) (e - 1)) := by
   intro κ
   rw [q1]
   unfold sZ123 GZ123
   rw [lawZ136 hN hl, h0, cond_false, he]
   dsimp only
   rw [and_tr (fits_ok (by omega) (by omega)), Bool.not_true, cond_false, lawZ124 hN hl hf (by omega) (by omega), s1]
  rw [hsum] at r1'
  generalize fadd (fadd (fadd (some 0) (fmul (sclF X (1 - e)) (sclF X (1 - e)))) (fmul (sclF Y (1 - e)) (sclF Y (1 - e)))) (fmul (sclF Z (1 - e)) (sclF Z (1 - e))) = n at *
  have hn0 : 0 < rv n := by
   obtain ⟨a, b⟩ := n2
   generalize rv (sclF X (1 - e)) * rv (sclF X (1 - e)) + rv (sclF Y (1 - e)) * rv (sclF Y (1 - e)) + rv (sclF Z (1 - e)) * rv (sclF Z (1 - e)) = s at *
   grind
  obtain ⟨s2, s3, s4⟩ := sqrt_near n1 hn0
  have h6 := root_six s3 s4 n2 (by grind) (by grind)
  have hpi : pz (1 - e) * pz (e - 1) = 1 := pz_inv (by omega) (by omega) (by omega)
  have hpe : pz (e - 1) <= G := by
   have a := Rat.mul_nonneg (by grind : 0 <= G * pz (1 - e) - 1) (Rat.le_of_lt (pz_pos (e - 1)))
   have b : G * pz (1 - e) * pz (e - 1) = G := by rw [Rat.mul_assoc, hpi, Rat.mul_one]
   grind
  have hpp := pz_pos (e - 1)
  have hb6 : Bd (rv (fsqrt n)) 6 := ⟨by grind, h6⟩
  have hbz : Bd (pz (e - 1)) (600 * uu) := ⟨by grind, by grind⟩
  have hm6 := hb6.mul hbz
  have hB := Bg_ge
  have hbig : 6 * (600 * uu) <= Bg := by grind
  have hfin := scl_fin s2 (k := e - 1) (by omega) (hm6.mono hbig)
  have hnr := scl_near s2 (k := e - 1) (by omega) (hm6.mono hbig) _ hm6
  refine ⟨_, hfin, ?_, fun κ => by rw [r1']; dsimp only; rw [hfin]; rfl⟩
  have he' := eta_le
  obtain ⟨a, b⟩ := hnr
  obtain ⟨c, d⟩ := hm6
  grind
end Go.Proofs.YtnfgnjciliapaaaGreatDoor
end
section
namespace Go.Proofs.YtnfgnjciliapaaaGreatDoor
open Go Go.Mach Ieee
set_option linter.unusedVariables false
theorem fmm_rv {x y : Fl} (hx : finF x = true) (hy : finF y = true) : finF (fmm true x y) = true /\ rv x <= rv (fmm true x y) /\ rv y <= rv (fmm true x y) /\ (rv (fmm true x y) = rv x \/ rv (fmm true x y) = rv y) := by
 obtain ⟨h1, h2, h3⟩ := fmm_vl hx hy
 refine ⟨h1, rv_le.1 (by omega), rv_le.1 (by omega), ?_⟩
 rcases h3 with h | h
 ·left; rw [h]
 ·right; rw [h]
theorem four_max {t a b c : Fl} (ft : finF t = true) (fa : finF a = true) (fb : finF b = true) (fc : finF c = true) : finF (fmm true (fmm true (fmm true t a) b) c) = true /\ rv t <= rv (fmm true (fmm true (fmm true t a) b) c) /\ rv a <= rv (fmm true (fmm true (fmm true t a) b) c) /\ rv b <= rv (fmm true (fmm true (fmm true t a) b) c) /\ rv c <= rv (fmm true (fmm true (fmm true t a) b) c) /\
  (rv (fmm true (fmm true (fmm true t a) b) c) = rv t \/ rv (fmm true (fmm true (fmm true t a) b) c) = rv a \/ rv (fmm true (fmm true (fmm true t a) b) c) = rv b \/ rv (fmm true (fmm true (fmm true t a) b) c) = rv c) := by
 obtain ⟨f1, l1, l2, e1⟩ := fmm_rv ft fa
 obtain ⟨f2, l3, l4, e2⟩ := fmm_rv f1 fb
 obtain ⟨f3, l5, l6, e3⟩ := fmm_rv f2 fc
 refine ⟨f3, by grind, by grind, by grind, by grind, ?_⟩
 rcases e3 with e3 | e3
 ·rcases e2 with e2 | e2
  ·rcases e1 with e1 | e1
   ·left; rw [e3, e2, e1]
   ·right; left; rw [e3, e2, e1]
  ·right; right; left; rw [e3, e2]
 ·right; right; right; exact e3
def Found (N : Nat) (w x y z : Fl) (f : K4 -> Bool) : Prop := ∃ j0 j1 j2 j3 : Fl, (FW j0 /\ FW j1 /\ FW j2 /\ FW j3) /\ U4 j0 j1 j2 j3 /\ (∀ κ, f κ = κ j0 j1 j2 j3 0) /\ ∃ Q c hw hx hy hz : Rat, Bd c (6 / 10) /\
      (Bd (hw - 4 * Q * rv w) (235 * uu) /\ Bd (hx - 4 * Q * rv x) (235 * uu) /\ Bd (hy - 4 * Q * rv y) (235 * uu) /\ Bd (hz - 4 * Q * rv z) (235 * uu)) /\
      (Bd (rv j0 - c * hw) (205 / 100 * uu) /\ Bd (rv j1 - c * hx) (205 / 100 * uu) /\ Bd (rv j2 - c * hy) (205 / 100 * uu) /\ Bd (rv j3 - c * hz) (205 / 100 * uu))
theorem found_of {N : Nat} (hN : 1000 <= N) {w x y z K0 K1 K2 K3 : Fl} {Q : Rat} (w0 : FW K0) (w1 : FW K1) (w2 : FW K2) (w3 : FW K3) (hU : Bd (Nq (rv w) (rv x) (rv y) (rv z) - 1) (1 / 1000)) (hQ : 6 / 25 <= Q * Q) (hQ2 : Bd Q kap)
  (h0 : Ap K0 (4 * Q * rv w) (230 * uu)) (h1 : Ap K1 (4 * Q * rv x) (230 * uu)) (h2 : Ap K2 (4 * Q * rv y) (230 * uu)) (h3 : Ap K3 (4 * Q * rv z) (230 * uu)) {f : K4 -> Bool} (hf : ∀ κ, f κ = jq N K0 K1 K2 K3 κ) : Found N w x y z f := by
 obtain ⟨j0, j1, j2, j3, a, b, c, cc, hw, hx, hy, hz, d, e, g⟩ := unit_of_k hN w0 w1 w2 w3 hU hQ hQ2 h0 h1 h2 h3
 exact ⟨j0, j1, j2, j3, a, b, fun κ => by rw [hf, c], Q, cc, hw, hx, hy, hz, d, e, g⟩
theorem from_back {N : Nat} (hN : 1000 <= N) {w x y z : Fl} (h : allFin [w, x, y, z] = true) (hU : Un (rv w) (rv x) (rv y) (rv z)) : Found N w x y z (sZ77 N 3 3 (matE w x y z)) := by
 obtain ⟨fw, fx, fy, fz⟩ := fin4 h
 obtain ⟨bw, bx, bY, bz⟩ := Un_bd hU.n
 have d0 := diag_near fy fz bY bz
 have d4 := diag_near fx fz bx bz
 have d8 := diag_near fx fy bx bY
 obtain ⟨d1, d3⟩ := offm_near fx fy fw fz bx bY bw bz
 obtain ⟨d6, d2⟩ := offm_near fx fz fw fy bx bz bw bY
 obtain ⟨d5, d7⟩ := offm_near fy fz fw fx bY bz bw bx
 have hall : allFin (matE w x y z) = true := by
  refine allN_iff.2 fun i hi => ?_
  have hi : i < 9 := hi
  match i, hi with
  | 0, _ => exact d0.1.1
  | 1, _ => exact d1.1.1
  | 2, _ => exact d2.1.1
  | 3, _ => exact d3.1.1
  | 4, _ => exact d4.1.1
  | 5, _ => exact d5.1.1
  | 6, _ => exact d6.1.1
  | 7, _ => exact d7.1.1
  | 8, _ => exact d8.1.1
 have hfq := fun κ => from_q hN hall rfl κ
 have hone : Ap (some 4607182418800017408) 1 0 /\ Bd (1 : Rat) 1 := ⟨one_Ap, by unfold Bd; grind⟩
 have t1 := add_st (E := 463 / 10 * uu) (D := 1016 / 100) d0 d4 (by grind) (by grind) (by grind)
 have t := add_st (E := 80 * uu) (D := 1524 / 100) t1 d8 (by grind) (by grind) (by grind)
 have p1 := add_st (E := 100 * uu) (D := 20) hone t (by grind) (by grind) (by grind)
 have s75 := sub_st (E := 100 * uu) (D := 20) d7 d5 (by grind) (by grind) (by grind)
 have s26 := sub_st (E := 100 * uu) (D := 20) d2 d6 (by grind) (by grind) (by grind)
 have s31 := sub_st (E := 100 * uu) (D := 20) d3 d1 (by grind) (by grind) (by grind)
 have a13 := add_st (E := 100 * uu) (D := 20) d1 d3 (by grind) (by grind) (by grind)
 have a26 := add_st (E := 100 * uu) (D := 20) d2 d6 (by grind) (by grind) (by grind)
 have a57 := add_st (E := 100 * uu) (D := 20) d5 d7 (by grind) (by grind) (by grind)
 have ka1 := add_st (E := 25 * uu) (D := 608 / 100) hone d0 (by grind) (by grind) (by grind)
 have ka2 := sub_st (E := 55 * uu) (D := 1116 / 100) ka1 d4 (by grind) (by grind) (by grind)
 have ka := sub_st (E := 100 * uu) (D := 20) ka2 d8 (by grind) (by grind) (by grind)
 have kb1 := sub_st (E := 25 * uu) (D := 608 / 100) hone d0 (by grind) (by grind) (by grind)
 have kb2 := add_st (E := 55 * uu) (D := 1116 / 100) kb1 d4 (by grind) (by grind) (by grind)
 have kb := sub_st (E := 100 * uu) (D := 20) kb2 d8 (by grind) (by grind) (by grind)
 have kc2 := sub_st (E := 55 * uu) (D := 1116 / 100) kb1 d4 (by grind) (by grind) (by grind)
 have kc := add_st (E := 100 * uu) (D := 20) kc2 d8 (by grind) (by grind) (by grind)
 obtain ⟨fm, l0, l1, l2, l3, hm⟩ := four_max t.1.1 d0.1.1 d4.1.1 d8.1.1
 have hN1 := hU
 unfold Un at hN1
 have r0 := t.1.2
 have r1 := d0.1.2
 have r2 := d4.1.2
 have r3 := d8.1.2
 have hft : (!finF (fadd (fadd (fsub (some 4607182418800017408) (fmul (some 4611686018427387904) (fadd (fmul y y) (fmul z z)))) (fsub (some 4607182418800017408) (fmul (some 4611686018427387904) (fadd (fmul x x) (fmul z z))))) (fsub (some 4607182418800017408) (fmul (some 4611686018427387904) (fadd (fmul x x) (fmul y y)))))) = false := by rw [t.1.1]; rfl
 have e0 : (feq (fmm true (fmm true (fmm true (fadd (fadd (fsub (some 4607182418800017408) (fmul (some 4611686018427387904) (fadd (fmul y y) (fmul z z)))) (fsub (some 4607182418800017408) (fmul (some 4611686018427387904) (fadd (fmul x x) (fmul z z))))) (fsub (some 4607182418800017408) (fmul (some 4611686018427387904) (fadd (fmul x x) (fmul y y))))) (fsub (some 4607182418800017408) (fmul (some 4611686018427387904) (fadd (fmul y y) (fmul z z))))) (fsub (some 4607182418800017408) (fmul (some 4611686018427387904) (fadd (fmul x x) (fmul z z))))) (fsub (some 4607182418800017408) (fmul (some 4611686018427387904) (fadd (fmul x x) (fmul y y))))) (fadd (fadd (fsub (some 4607182418800017408) (fmul (some 4611686018427387904) (fadd (fmul y y) (fmul z z)))) (fsub (some 4607182418800017408) (fmul (some 4611686018427387904) (fadd (fmul x x) (fmul z z))))) (fsub (some 4607182418800017408) (fmul (some 4611686018427387904) (fadd (fmul x x) (fmul y y)))))) = true ↔ _ := feq_rv fm t.1.1
 have e1 := feq_rv fm d0.1.1
 have e2 := feq_rv fm d4.1.1
 unfold matE at hfq ⊢
 generalize fadd (fadd (fsub (some 4607182418800017408) (fmul (some 4611686018427387904) (fadd (fmul y y) (fmul z z)))) (fsub (some 4607182418800017408) (fmul (some 4611686018427387904) (fadd (fmul x x) (fmul z z))))) (fsub (some 4607182418800017408) (fmul (some 4611686018427387904) (fadd (fmul x x) (fmul y y)))) = tt at *
 generalize fsub (some 4607182418800017408) (fmul (some 4611686018427387904) (fadd (fmul y y) (fmul z z))) = m0 at *
 generalize fsub (some 4607182418800017408) (fmul (some 4611686018427387904) (fadd (fmul x x) (fmul z z))) = m4 at *
 generalize fsub (some 4607182418800017408) (fmul (some 4611686018427387904) (fadd (fmul x x) (fmul y y))) = m8 at *
 generalize hmm : fmm true (fmm true (fmm true tt m0) m4) m8 = mm at *
 have sel : ∀ {q a b c : Rat}, Bd (Nq q a b c - 1) (1 / 281474976710656) -> a * a <= q * q + 1 / 1000 -> b * b <= q * q + 1 / 1000 -> c * c <= q * q + 1 / 1000 -> 6 / 25 <= q * q := fun hn ha hb hc => quarter (hn.mono (by grind)) ha hb hc
 obtain ⟨r0a, r0b⟩ := r0
 obtain ⟨r1a, r1b⟩ := r1
 obtain ⟨r2a, r2b⟩ := r2
 obtain ⟨r3a, r3b⟩ := r3
 have hNa := hN1.1
 have hNb := hN1.2
 cases c0 : feq mm tt with
 | true =>
  have g0 := e0.1 c0
  have hQ : 6 / 25 <= rv w * rv w := by
   refine sel (a := rv x) (b := rv y) (c := rv z) hN1 ?_ ?_ ?_ <;> (unfold Nq at hNa hNb; grind)
  refine found_of hN (FW_fadd _ _) (FW_fsub _ _) (FW_fsub _ _) (FW_fsub _ _) hU.n hQ bw (p1.1.to (d := 128 * uu) ?_ (by grind)) (s75.1.to (d := 0) ?_ (by grind)) (s26.1.to (d := 0) ?_ (by grind)) (s31.1.to (d := 0) ?_ (by grind)) (fun κ => ?_)
  ·unfold Nq at hNa hNb; exact ⟨by grind, by grind⟩
  ·exact ⟨by grind, by grind⟩
  ·exact ⟨by grind, by grind⟩
  ·exact ⟨by grind, by grind⟩
  ·rw [hfq, hft, cond_false, c0, cond_true]
 | false =>
 cases c1 : feq mm m0 with
 | true =>
  have g0 := e1.1 c1
  have hN2 : Bd (Nq (rv x) (rv w) (rv y) (rv z) - 1) (1 / 281474976710656) := by
   have : Nq (rv x) (rv w) (rv y) (rv z) = Nq (rv w) (rv x) (rv y) (rv z) := by unfold Nq; grind
   rw [this]; exact hN1
  have hQ : 6 / 25 <= rv x * rv x := by
   refine sel (a := rv w) (b := rv y) (c := rv z) hN2 ?_ ?_ ?_ <;> (unfold Nq at hNa hNb; grind)
  refine found_of hN (FW_fsub _ _) (FW_fsub _ _) (FW_fadd _ _) (FW_fadd _ _) hU.n hQ bx (s75.1.to (d := 0) ?_ (by grind)) (ka.1.to (d := 0) ?_ (by grind)) (a13.1.to (d := 0) ?_ (by grind)) (a26.1.to (d := 0) ?_ (by grind)) (fun κ => ?_)
  ·exact ⟨by grind, by grind⟩
  ·exact ⟨by grind, by grind⟩
  ·exact ⟨by grind, by grind⟩
  ·exact ⟨by grind, by grind⟩
  ·rw [hfq, hft, cond_false, c0, cond_false, c1, cond_true]
 | false =>
 cases c2 : feq mm m4 with
 | true =>
  have g0 := e2.1 c2
  have hN2 : Bd (Nq (rv y) (rv w) (rv x) (rv z) - 1) (1 / 281474976710656) := by
   have : Nq (rv y) (rv w) (rv x) (rv z) = Nq (rv w) (rv x) (rv y) (rv z) := by unfold Nq; grind
   rw [this]; exact hN1
  have hQ : 6 / 25 <= rv y * rv y := by
   refine sel (a := rv w) (b := rv x) (c := rv z) hN2 ?_ ?_ ?_ <;> (unfold Nq at hNa hNb; grind)
  refine found_of hN (FW_fsub _ _) (FW_fadd _ _) (FW_fsub _ _) (FW_fadd _ _) hU.n hQ bY (s26.1.to (d := 0) ?_ (by grind)) (a13.1.to (d := 0) ?_ (by grind)) (kb.1.to (d := 0) ?_ (by grind)) (a57.1.to (d := 0) ?_ (by grind)) (fun κ => ?_)
  ·exact ⟨by grind, by grind⟩
  ·exact ⟨by grind, by grind⟩
  ·exact ⟨by grind, by grind⟩
  ·exact ⟨by grind, by grind⟩
  ·rw [hfq, hft, cond_false, c0, cond_false, c1, cond_false, c2, cond_true]
 | false =>
  have g0 : rv mm = rv m8 := by
   rcases hm with h' | h' | h' | h'
   ·rw [e0.2 h'] at c0; cases c0
   ·rw [e1.2 h'] at c1; cases c1
   ·rw [e2.2 h'] at c2; cases c2
   ·exact h'
  have hN2 : Bd (Nq (rv z) (rv w) (rv x) (rv y) - 1) (1 / 281474976710656) := by
   have : Nq (rv z) (rv w) (rv x) (rv y) = Nq (rv w) (rv x) (rv y) (rv z) := by unfold Nq; grind
   rw [this]; exact hN1
  have hQ : 6 / 25 <= rv z * rv z := by
   refine sel (a := rv w) (b := rv x) (c := rv y) hN2 ?_ ?_ ?_ <;> (unfold Nq at hNa hNb; grind)
  refine found_of hN (FW_fsub _ _) (FW_fadd _ _) (FW_fadd _ _) (FW_fadd _ _) hU.n hQ bz (s31.1.to (d := 0) ?_ (by grind)) (a26.1.to (d := 0) ?_ (by grind)) (a57.1.to (d := 0) ?_ (by grind)) (kc.1.to (d := 0) ?_ (by grind)) (fun κ => ?_)
  ·exact ⟨by grind, by grind⟩
  ·exact ⟨by grind, by grind⟩
  ·exact ⟨by grind, by grind⟩
  ·exact ⟨by grind, by grind⟩
  ·rw [hfq, hft, cond_false, c0, cond_false, c1, cond_false, c2, cond_false]
end Go.Proofs.YtnfgnjciliapaaaGreatDoor
end
section
namespace Go.Proofs.YtnfgnjciliapaaaGreatDoor
open Go Go.Mach Ieee
set_option linter.unusedVariables false
theorem apart_of {N : Nat} (hN : 1000 <= N) {w x y z j0 j1 j2 j3 : Fl} (h : allFin [w, x, y, z] = true) (hU : Un (rv w) (rv x) (rv y) (rv z)) (w1 : FW x) (w2 : FW y) (w3 : FW z) (u4 : U4 j0 j1 j2 j3) {Q c hw hx hy hz : Rat} (hc : Bd c (6 / 10))
  (gw : Bd (hw - 4 * Q * rv w) (235 * uu)) (gx : Bd (hx - 4 * Q * rv x) (235 * uu)) (gy : Bd (hy - 4 * Q * rv y) (235 * uu)) (gz : Bd (hz - 4 * Q * rv z) (235 * uu))
  (dw : Bd (rv j0 - c * hw) (205 / 100 * uu)) (dx : Bd (rv j1 - c * hx) (205 / 100 * uu)) (dy : Bd (rv j2 - c * hy) (205 / 100 * uu)) (dz : Bd (rv j3 - c * hz) (205 / 100 * uu)) :
  ∃ d, finF d = true /\ rv d <= 4000 * uu /\ ∀ κ, sZ68 N w x y z j0 j1 j2 j3 κ = κ d 0 := by
 obtain ⟨fw, fx, fy, fz⟩ := fin4 h
 obtain ⟨bw, bx, bY, bz⟩ := Un_bd hU.n
 obtain ⟨f0, f1, f2, f3⟩ := fin4 u4.1
 obtain ⟨b0, b1, b2, b3⟩ := Un_bd (u4.2.mono (B := 1 / 1000) (by grind))
 obtain ⟨nx, rx⟩ := rv_neg w1 fx
 obtain ⟨ny, ry⟩ := rv_neg w2 fy
 obtain ⟨nz, rz⟩ := rv_neg w3 fz
 have cx : Bd (rv (fneg x)) kap := by rw [rx]; exact bx.neg
 have cy : Bd (rv (fneg y)) kap := by rw [ry]; exact bY.neg
 have cz : Bd (rv (fneg z)) kap := by rw [rz]; exact bz.neg
 obtain ⟨m0, m1, m2, m3⟩ := qmul_near2 fw nx ny nz f0 f1 f2 f3 bw cx cy cz b0 b1 b2 b3
 rw [rx, ry, rz] at m0 m1 m2 m3
 have v1 := apart0 bw bx bY bz hc gw gx gy gz dw dx dy dz
 have v2 := apart0 bw bY bz bx hc gw gy gz gx dw dy dz dx
 have v3 := apart0 bw bz bx bY hc gw gz gx gy dw dz dx dy
 have e2 : rv w * rv j2 + -(rv y) * rv j0 + -(rv z) * rv j1 - -(rv x) * rv j3 = rv w * rv j2 - -(rv x) * rv j3 + -(rv y) * rv j0 + -(rv z) * rv j1 := by grind
 have e3 : rv w * rv j3 + -(rv z) * rv j0 + -(rv x) * rv j2 - -(rv y) * rv j1 = rv w * rv j3 + -(rv x) * rv j2 - -(rv y) * rv j1 + -(rv z) * rv j0 := by grind
 rw [e2] at v2
 rw [e3] at v3
 have hall := allFin4' m0.1 m1.1 m2.1 m3.1
 obtain ⟨d, d1, d2, d3⟩ := length_small hN m1.1 m2.1 m3.1 (FW_fsub _ _) (FW_fadd _ _) (FW_fadd _ _) ((m1.bd v1).mono (by grind)) ((m2.bd v2).mono (by grind)) ((m3.bd v3).mono (by grind))
 refine ⟨d, d1, d2, fun κ => ?_⟩
 have hcf := allFin4' fw nx ny nz
 unfold sZ68 GZ68
 rw [law_good2 hN, h, u4.1, show (!(true && true)) = false from rfl, cond_false, law_ConjQ hN h, law_MulQ hN, hcf, u4.1]
 unfold mulK
 dsimp only
 rw [hall, Bool.not_true, cond_false, show ((0 : Int) != 0) = false from rfl, cond_false, show (true && true) = true from rfl, cond_true, d3]
def baQ (N : Nat) (v : Fl) (k : Bool -> Bool) (T : Bool) (e : Int) (g : Bool) (l : List Int) : Bool :=
 sZ0 N e g l (fun g1 l1 => sZ59 N v (fun e2 g2 l2 => sZ0 N e2 g2 l2 (fun g3 l3 => sZ32 N (-48) (fun g4 l4 => sZ2 N e2 (-48) g3 l3 g4 l4 (fun e5 g5 l5 => sZ1 N e e5 g1 l1 g5 l5 (fun r => cond (decide (r > 0)) (k false) T))))))
theorem abs_ex' {N : Nat} (hN : 1000 <= N) {E B : Nat} {x : Int × Int} (hx : Ex E B x) (hB : B <= 20000) (k : Bool -> List Int -> Bool) : sZ0 N x.1 (decide (x.2 < 0)) (digs x.2.natAbs) k = k false (digs x.2.natAbs) := by
 unfold sZ0 GZ0
 rw [law_AbsR _ _ (bits_short hN (by omega) hx.2.2)]
theorem Ex.abs {E B : Nat} {x : Int × Int} (hx : Ex E B x) : Ex E B (x.1, ((x.2.natAbs : Nat) : Int)) := ⟨hx.1, hx.2.1, by show Bits _ ((x.2.natAbs : Nat) : Int).natAbs; rw [Int.natAbs_natCast]; exact hx.2.2⟩
theorem ex48 : Ex 48 1 ((-48 : Int), (1 : Int)) /\ EV ((-48 : Int), (1 : Int)) 1 48 := ⟨⟨by decide, by decide, by show (1 : Int).natAbs < 2 ^ 1; decide⟩, ⟨by decide, by decide⟩⟩
theorem baQ_eq {N : Nat} (hN : 1000 <= N) {v : Fl} (fv : finF v = true) (wv : FW v) {X : Int × Int} (hX : Ex 1100 2254 X) {d : Int} (vX : EV X d Sc) (hle : ((d.natAbs : Nat) : Int) * 281474976710656 <= (((valE v).natAbs : Nat) : Int)) (k : Bool -> Bool) (T : Bool) :
  baQ N v k T X.1 (decide (X.2 < 0)) (digs X.2.natAbs) = T := by
 have xv := ofE_Ex fv
 have vv := (valE_EV fv).abs.mul ex48.2
 have vx := vX.abs.up 48
 have xm := xv.abs.mul ex48.1
 have hsg : decide (sgnI (exAdd (X.1, ((X.2.natAbs : Nat) : Int)) (exNeg (exMul ((ofE v).1, (((ofE v).2.natAbs : Nat) : Int)) (-48, 1)))).2 > 0) = false := by
  rw [(vx.add vv.neg).sgn]
  refine sgn_pos ?_
  rw [show (2 : Int) ^ 48 = 281474976710656 by decide, Int.mul_one]
  omega
 unfold baQ
 rw [abs_ex' hN hX (by omega), law_Of hN fv wv]
 unfold exK
 dsimp only
 rw [abs_ex' hN xv (by omega)]
 unfold sZ32 GZ32
 rw [new_one hN]
 have hm := fun κ => law_ExMul hN (xv.abs.mono (E' := 1200) (B' := 2300) (by omega) (by omega)) (ex48.1.mono (E' := 1200) (B' := 2300) (by omega) (by omega)) (by omega) (by omega) κ
 rw [show decide (((-48 : Int), (1 : Int)).2 < 0) = false from rfl, show ((-48 : Int), (1 : Int)).2.natAbs = 1 from rfl, digs_one] at hm
 simp only [abs_neg_one, Int.natAbs_natCast] at hm
 dsimp only
 rw [hm]
 unfold exK
 dsimp only
 have hcm := fun κ => law_ExCmp hN (hX.abs.mono (E' := 1200) (B' := 2400) (by omega) (by omega)) (xm.mono (E' := 1200) (B' := 2400) (by omega) (by omega)) (by omega) κ
 simp only [abs_neg_one, Int.natAbs_natCast] at hcm
 rw [hcm, hsg, cond_false]
theorem ba1 {N : Nat} (hN : 1000 <= N) {a v : Fl} (fa : finF a = true) (fv : finF v = true) (wa : FW a) (wv : FW v) (hle : (((valE a - valE v).natAbs : Nat) : Int) * 281474976710656 <= (((valE v).natAbs : Nat) : Int)) (k : Bool -> Bool) (T : Bool) :
  sZ59 N a (fun nr cr nsr => sZ59 N v (fun nr_1 cr_1 nsr_1 => sZ6 N nr_1 cr_1 nsr_1 (fun cr_2 nsr_2 => sZ3 N nr nr_1 cr nsr cr_2 nsr_2 (baQ N v k T nr_1 cr_2 nsr_2) (baQ N v k T nr cr nsr) (fun e g l => baQ N v k T e g l)))) = T := by
 have xa := ofE_Ex fa
 have xb := ofE_Ex fv
 have vX := (valE_EV fa).add (valE_EV fv).neg
 have hX := xa.add xb.neg
 rw [law_Of hN fa wa]
 unfold exK
 dsimp only
 rw [law_Of hN fv wv]
 unfold exK
 dsimp only
 rw [neg_ex hN xb (by omega)]
 have h := law_ExAdd hN xa xb.neg (by omega) (baQ N v k T (ofE v).1 (decide ((exNeg (ofE v)).2 < 0)) (digs (exNeg (ofE v)).2.natAbs)) (baQ N v k T (ofE a).1 (decide ((ofE a).2 < 0)) (digs (ofE a).2.natAbs)) (fun e g l => baQ N v k T e g l) rfl rfl
 refine Eq.trans h ?_
 unfold exK
 exact baQ_eq hN fv wv hX vX (by rw [<- Int.sub_eq_add_neg]; exact hle) k T
theorem back_int {a v : Fl} {α : Rat} (fa : finF a = true) (fv : finF v = true) (h0 : 0 <= α) (hv : rv v = α \/ rv v = -α) (h : Ra a (rv v) α (22 * uu)) : (((valE a - valE v).natAbs : Nat) : Int) * 281474976710656 <= (((valE v).natAbs : Nat) : Int) := by
 obtain ⟨-, -, -, k1, k2⟩ := h
 have u0 := Ue_pos Sc
 have ea := val_rv fa
 have ev := val_rv fv
 have c1 : ((valE v : Int) : Rat) <= (((valE v).natAbs : Nat) : Int) := Rat.intCast_le_intCast.2 (by omega)
 have c2 : ((-(valE v) : Int) : Rat) <= (((valE v).natAbs : Nat) : Int) := Rat.intCast_le_intCast.2 (by omega)
 rw [Rat.intCast_neg] at c2
 have hα : α <= ((((valE v).natAbs : Nat) : Int) : Rat) * Ue Sc := by
  generalize ((((valE v).natAbs : Nat) : Int) : Rat) = n at *
  have a1 := Rat.mul_nonneg ((Rat.le_iff_sub_nonneg _ _).1 c1) (Rat.le_of_lt u0)
  have a2 := Rat.mul_nonneg ((Rat.le_iff_sub_nonneg _ _).1 c2) (Rat.le_of_lt u0)
  rw [<- ev] at hv
  generalize ((valE v : Int) : Rat) = m at *
  generalize Ue Sc = u at *
  rcases hv with hv | hv <;> grind
 have g1 : (valE a - valE v) * 281474976710656 <= (((valE v).natAbs : Nat) : Int) := by
  refine int_of_rat u0 ?_
  rw [Rat.intCast_mul, Rat.intCast_sub]
  have e : (((valE a : Int) : Rat) - ((valE v : Int) : Rat)) * ((281474976710656 : Int) : Rat) * Ue Sc = (rv a - rv v) * ((281474976710656 : Int) : Rat) := by
   rw [<- ea, <- ev]; grind
  rw [e, show ((281474976710656 : Int) : Rat) = 281474976710656 from rfl]
  grind
 have g2 : -(valE a - valE v) * 281474976710656 <= (((valE v).natAbs : Nat) : Int) := by
  refine int_of_rat u0 ?_
  rw [Rat.intCast_mul, Rat.intCast_neg, Rat.intCast_sub]
  have e : -(((valE a : Int) : Rat) - ((valE v : Int) : Rat)) * ((281474976710656 : Int) : Rat) * Ue Sc = -(rv a - rv v) * ((281474976710656 : Int) : Rat) := by
   rw [<- ea, <- ev]; grind
  rw [e, show ((281474976710656 : Int) : Rat) = 281474976710656 from rfl]
  grind
 generalize valE a - valE v = D at *
 omega
abbrev c40 : Fl := some 4427038433705197568
theorem ldexp_40 {N : Nat} (hN : 1000 <= N) (κ : Fl -> Bool) : sZ48 N (some 4607182418800017408) (-40) κ = κ c40 := by
 obtain ⟨M, rfl⟩ : ∃ M, N = M + 1000 := ⟨N - 1000, by omega⟩
 kernel_rfl
theorem c40_val : finF c40 = true /\ rv c40 = 8192 * uu := by
 have h : Ieee.double.read 4427038433705197568 = .number false 4503599627370496 (-92) := by decide
 obtain ⟨a, b⟩ := rv_pow h (n := 40) (by decide)
 refine ⟨a, ?_⟩
 rw [b]
 have := Ue_mul 40
 rw [show (2 : Rat) ^ 40 = 1099511627776 by decide +kernel] at this
 grind
theorem tail1 {N N' : Nat} (hN : 1000 <= N) (x0 x1 x2 x3 u0 u1 u2 : Int) {a b c : Fl} (v0 : FW a) (v1 : FW b) (v2 : FW c) (k : Bool -> Bool) : JZ154 N' (sZ19 N) (sZ15 N) (sZ20 N) (sZ54 N) (sZ58 N) (sZ77 N) (sZ68 N) (sZ48 N) (sZ23 N) (sZ57 N) (sZ69 N) (sZ59 N) (sZ6 N) (sZ3 N) (sZ0 N) (sZ32 N) (sZ2 N) (sZ1 N) x0 x1 x2 x3 u0 u1 u2 a b c k = k true := by
 have z1 : (((0 : Int) != 0) == false) = true := rfl
 have z2 : ((0 : Int) != 0) = false := rfl
 unfold JZ154
 rw [law_tame hN]
 cases htame : (tameB a && (tameB b && tameB c)) with
 | false => rfl
 | true =>
  rw [Bool.and_eq_true, Bool.and_eq_true] at htame
  obtain ⟨ta, tb, tc⟩ := htame
  obtain ⟨fa, Ta⟩ := tame_ok v0 ta
  obtain ⟨fb, Tb⟩ := tame_ok v1 tb
  obtain ⟨fc, Tc⟩ := tame_ok v2 tc
  obtain ⟨C0, C1, C2, C3, w0, w1, w2, hC, hG, ⟨n0, n1, n2⟩, α, β, γ, ⟨a0, a1⟩, ⟨b0, b1⟩, ⟨c0, c1⟩, r0, r1, r2⟩ := cg hN fa fb fc Ta Tb Tc
  rw [Bool.not_true, cond_false, hC, hG, z1, cond_true, z2, cond_false]
  refine (ba1 hN r0.1 fa n0 v0 (back_int r0.1 fa a0 a1 r0) k _).trans ?_
  refine (ba1 hN r1.1 fb n1 v1 (back_int r1.1 fb b0 b1 r1) k _).trans ?_
  exact ba1 hN r2.1 fc n2 v2 (back_int r2.1 fc c0 c1 r2) k (k true)
theorem tail2 {N N' : Nat} (hN : 1000 <= N) (x0 x1 x2 x3 u0 u1 u2 : Int) {a b c : Fl} (v0 : FW a) (v1 : FW b) (v2 : FW c) (k : Bool -> Bool) : JZ155 N' (sZ19 N) (sZ15 N) (sZ20 N) (sZ54 N) (sZ58 N) (sZ77 N) (sZ68 N) (sZ48 N) (sZ23 N) (sZ57 N) (sZ69 N) (sZ59 N) (sZ6 N) (sZ3 N) (sZ0 N) (sZ32 N) (sZ2 N) (sZ1 N) x0 x1 x2 x3 u0 u1 u2 a b c k = k true := by
 have z1 : (((0 : Int) != 0) == false) = true := rfl
 have z2 : ((0 : Int) != 0) = false := rfl
 unfold JZ155
 rw [law_tame hN]
 cases htame : (tameB a && (tameB b && tameB c)) with
 | false => rfl
 | true =>
  rw [Bool.and_eq_true, Bool.and_eq_true] at htame
  obtain ⟨ta, tb, tc⟩ := htame
  obtain ⟨fa, Ta⟩ := tame_ok v0 ta
  obtain ⟨fb, Tb⟩ := tame_ok v1 tb
  obtain ⟨fc, Tc⟩ := tame_ok v2 tc
  obtain ⟨C0, C1, C2, C3, w0, w1, w2, hC, hG, ⟨n0, n1, n2⟩, α, β, γ, ⟨a0, a1⟩, ⟨b0, b1⟩, ⟨c0, c1⟩, r0, r1, r2⟩ := cg hN fa fb fc Ta Tb Tc
  rw [Bool.not_true, cond_false, hC, hG, z1, cond_true, z2, cond_false]
  refine (ba1 hN r0.1 fa n0 v0 (back_int r0.1 fa a0 a1 r0) k _).trans ?_
  refine (ba1 hN r1.1 fb n1 v1 (back_int r1.1 fb b0 b1 r1) k _).trans ?_
  exact ba1 hN r2.1 fc n2 v2 (back_int r2.1 fc c0 c1 r2) k (k true)
theorem law_QuatBack {N : Nat} (hN : 1000 <= N) {x0 x1 x2 x3 u0 u1 u2 : Int} (h0 : x0.toNat < 18446744073709551616) (h1 : x1.toNat < 18446744073709551616) (h2 : x2.toNat < 18446744073709551616) (h3 : x3.toNat < 18446744073709551616) (g0 : u0.toNat < 18446744073709551616) (g1 : u1.toNat < 18446744073709551616) (g2 : u2.toNat < 18446744073709551616) (k : Bool -> Bool) : sZ46 N x0 x1 x2 x3 u0 u1 u2 k = k true := by
 have hv : ∀ (x y z w : Int) (k : Fl -> Fl -> Fl -> Fl -> Bool), sZ15 N x y z w k = k (canon x.toNat) (canon y.toNat) (canon z.toNat) (canon w.toNat) := fun _ _ _ _ _ => rfl
 have hu : ∀ (x y z : Int) (k : Fl -> Fl -> Fl -> Bool), sZ20 N x y z k = k (canon x.toNat) (canon y.toNat) (canon z.toNat) := fun _ _ _ _ => rfl
 have w0 := canon_FW h0
 have w1 := canon_FW h1
 have w2 := canon_FW h2
 have w3 := canon_FW h3
 have v0 := canon_FW g0
 have v1 := canon_FW g1
 have v2 := canon_FW g2
 unfold sZ46 GZ46
 rw [law_awake hN, Bool.not_true, cond_false, hv, hu]
 generalize canon x0.toNat = w at *
 generalize canon x1.toNat = x at *
 generalize canon x2.toNat = y at *
 generalize canon x3.toNat = z at *
 generalize canon u0.toNat = a at *
 generalize canon u1.toNat = b at *
 generalize canon u2.toNat = c at *
 have z1 : (((0 : Int) != 0) == false) = true := rfl
 have z2 : ((0 : Int) != 0) = false := rfl
 cases hA : allFin [w, x, y, z] with
 | false => rw [law_quat_Good_nf hN hA, cond_false, tail2 hN _ _ _ _ _ _ _ v0 v1 v2]
 | true =>
 rw [lawZ54 hN hA w0 w1 w2 w3]
 by_cases hgA : sgnI (offE w x y z) <= 0
 case neg => rw [decide_eq_false hgA, cond_false, tail2 hN _ _ _ _ _ _ _ v0 v1 v2]
 have uA : Un (rv w) (rv x) (rv y) (rv z) := good_rv (finL4 hA w0 w1 w2 w3) hgA
 obtain ⟨j0, j1, j2, j3, -, u4, hj, Q, cc, hw, hx, hy, hz, hc, ⟨q0, q1, q2, q3⟩, ⟨d0, d1, d2, d3⟩⟩ := from_back hN hA uA
 obtain ⟨d, fd, hd, hap⟩ := apart_of hN hA uA w1 w2 w3 u4 hc q0 q1 q2 q3 d0 d1 d2 d3
 have hle : fle d c40 = true := (fle_rv fd c40_val.1).2 (by rw [c40_val.2]; grind)
 have hM : allFin (matE w x y z) = true := by
  obtain ⟨fw, fx, fy, fz⟩ := fin4 hA
  obtain ⟨bw, bx, bY, bz⟩ := Un_bd uA.n
  have e0 := diag_near fy fz bY bz
  have e4 := diag_near fx fz bx bz
  have e8 := diag_near fx fy bx bY
  obtain ⟨e1, e3⟩ := offm_near fx fy fw fz bx bY bw bz
  obtain ⟨e6, e2⟩ := offm_near fx fz fw fy bx bz bw bY
  obtain ⟨e5, e7⟩ := offm_near fy fz fw fx bY bz bw bx
  refine allN_iff.2 fun i hi => ?_
  have hi : i < 9 := hi
  match i, hi with
  | 0, _ => exact e0.1.1
  | 1, _ => exact e1.1.1
  | 2, _ => exact e2.1.1
  | 3, _ => exact e3.1.1
  | 4, _ => exact e4.1.1
  | 5, _ => exact e5.1.1
  | 6, _ => exact e6.1.1
  | 7, _ => exact e7.1.1
  | 8, _ => exact e8.1.1
 rw [decide_eq_true hgA, cond_true, law_Matrix hN, hA, hM, cond_true, cond_true, hj, hap, z1, cond_true, cond_true, cond_true, ldexp_40 hN, hle, Bool.not_true, cond_false, tail1 hN _ _ _ _ _ _ _ v0 v1 v2]
end Go.Proofs.YtnfgnjciliapaaaGreatDoor
end
