/-
  UNITS: what is made unit, with all that is known of it; turned, joined, turned back, by the matrix.
  Conditions: words.
-/
import Derived.Test.YtnfgnjciliapaaaGreatDoorL3
import Derived.Test.YtnfgnjciliapaaaGreatDoorN14
import Derived.Test.YtnfgnjciliapaaaGreatDoorS0
section
namespace Go.Proofs.YtnfgnjciliapaaaGreatDoor
open Go Go.Mach Ieee
set_option linter.unusedVariables false

theorem pz_great {m : Nat} (hm : m ≠ 0) {i : Int} (hi : -1074 <= i) {k : Int} (hk : i + m.log2 + k = 0) (h1 : -1200 <= k) (h2 : k <= 1200) : 1 <= ((m * 2 ^ (i + 1074).toNat : Nat) : Rat) * Ue Sp * pz k /\ ((m * 2 ^ (i + 1074).toNat : Nat) : Rat) * Ue Sp * pz k <= 2 := by
  have hlg := Nat.log2_self_le hm
  have hlg2 : m < 2 ^ (m.log2 + 1) := Nat.lt_log2_self
  have hK := K2_eq
  have hS := Sp_eq
  have e1 : ((m * 2 ^ (i + 1074).toNat : Nat) : Rat) * Ue Sp * pz k = ((m * 2 ^ ((i + 1074).toNat + (k + (K2 : Int)).toNat) : Nat) : Rat) * Ue (Sp + K2) := by
    unfold pz
    rw [Nat.pow_add, Ue_add, Rat.natCast_mul, Rat.natCast_mul, Rat.natCast_mul, Rat.natCast_pow _ (k + (K2 : Int)).toNat]
    have e2 : ((2 : Nat) : Rat) ^ (k + (K2 : Int)).toNat = (2 : Rat) ^ (k + (K2 : Int)).toNat := rfl
    rw [e2]
    generalize ((2 ^ (i + 1074).toNat : Nat) : Rat) = a
    generalize (2 : Rat) ^ (k + (K2 : Int)).toNat = c
    generalize Ue Sp = u
    generalize Ue K2 = v
    generalize (m : Rat) = n
    grind
  have hle : 2 ^ (Sp + K2) <= m * 2 ^ ((i + 1074).toNat + (k + (K2 : Int)).toNat) := by
    have := Nat.mul_le_mul_right (2 ^ ((i + 1074).toNat + (k + (K2 : Int)).toNat)) hlg
    rw [<- Nat.pow_add] at this
    refine Nat.le_trans (Nat.pow_le_pow_right (by decide) ?_) this
    omega
  have hge : m * 2 ^ ((i + 1074).toNat + (k + (K2 : Int)).toNat) <= 2 * 2 ^ (Sp + K2) := by
    have := Nat.mul_le_mul_right (2 ^ ((i + 1074).toNat + (k + (K2 : Int)).toNat)) (Nat.le_of_lt hlg2)
    rw [<- Nat.pow_add] at this
    refine Nat.le_trans this ?_
    have e3 : 2 * 2 ^ (Sp + K2) = 2 ^ (Sp + K2 + 1) := by rw [Nat.pow_succ, Nat.mul_comm]
    rw [e3]
    refine Nat.pow_le_pow_right (by decide) ?_
    omega
  rw [e1]
  have c1 := Rat.natCast_le_natCast.2 hle
  have c2 := Rat.natCast_le_natCast.2 hge
  have c3 : ((2 * 2 ^ (Sp + K2) : Nat) : Rat) = 2 * 2 ^ (Sp + K2) := by rw [Rat.natCast_mul, Rat.natCast_pow]; rfl
  have c4 : ((2 ^ (Sp + K2) : Nat) : Rat) = 2 ^ (Sp + K2) := by rw [Rat.natCast_pow]; rfl
  rw [c4] at c1
  rw [c3] at c2
  have u1 := Ue_mul (Sp + K2)
  have u2 := Ue_pos (Sp + K2)
  generalize ((m * 2 ^ ((i + 1074).toNat + (k + (K2 : Int)).toNat) : Nat) : Rat) = X at *
  generalize (2 : Rat) ^ (Sp + K2) = P at *
  generalize Ue (Sp + K2) = U at *
  have k1 := Rat.mul_nonneg (by grind : 0 <= X - P) (by grind : 0 <= U)
  have k2 := Rat.mul_nonneg (by grind : 0 <= 2 * P - X) (by grind : 0 <= U)
  constructor <;> grind
theorem vl_of_abs {x : Fl} (hf : finF x = true) (hw : FW x) {V : Int} (h : vl (absF x) <= V) : Bd (rv x) ((V : Rat) * Ue Sp) := by
  obtain ⟨b, s, m, i, rfl, hr⟩ := finF_num hf
  rw [vl_abs hf hw rfl hr] at h
  rw [rv_num hr, signed_cast]
  have h1 := Rat.intCast_le_intCast.2 h
  rw [Rat.intCast_natCast] at h1
  have h2 := Ue_pos Sp
  have h3 : (0 : Rat) <= ((m * 2 ^ (i + 1074).toNat : Nat) : Rat) := Rat.natCast_nonneg
  generalize ((m * 2 ^ (i + 1074).toNat : Nat) : Rat) = X at *
  generalize ((V : Int) : Rat) = W at *
  generalize Ue Sp = U at *
  have k1 := Rat.mul_nonneg (by grind : 0 <= W - X) (by grind : 0 <= U)
  have k2 := Rat.mul_nonneg h3 (by grind : 0 <= U)
  cases s
  · rw [if_neg (by decide)]; exact ⟨by grind, by grind⟩
  · rw [if_pos rfl]; exact ⟨by grind, by grind⟩
theorem scl_great {N : Nat} {xs : List Fl} (hf : FinW xs) (h0 : feq (mostF xs xs.length) (some 0) = false) :
    ∃ fr e, (∀ κ : Fl -> Int -> Bool, sQ138 N (mostF xs xs.length) κ = κ fr e) /\ -1200 <= e /\ e <= 1200 /\
      ∃ G : Rat, 0 < G /\ 1 <= G * pz (1 - e) /\ G * pz (1 - e) <= 2 /\ (∀ i, i < xs.length -> Bd (rv (xs.getD i none)) G) /\ ∃ j, j < xs.length /\ (rv (xs.getD j none) = G \/ rv (xs.getD j none) = -G) := by
  obtain ⟨hm, hmw⟩ := most_fin hf xs.length (Nat.le_refl _)
  obtain ⟨hle, hone⟩ := most_vl hf xs.length (Nat.le_refl _)
  obtain ⟨fr, e, he, he1, he2, he3⟩ := law_frexp N hm hmw h0
  obtain ⟨b, s, m, i, hb, hr⟩ := finF_num hm
  have hei := he3 b s m i hb hr
  have hm0 : m ≠ 0 := by
    rw [hb, feq_zero hr] at h0
    exact of_decide_eq_false h0
  have hgi := place_ge hr
  rcases hone with e0 | ⟨j, hj, ej⟩
  · rw [e0] at h0
    exact absurd h0 (by decide)
  obtain ⟨hjf, hjw⟩ := hf j hj
  obtain ⟨bj, sj, mj, ij, hbj, hrj⟩ := finF_num hjf
  have hsame : mj = m /\ ij = i := by
    obtain ⟨c, hc, hcw, hcr⟩ := absF_num (hjw bj hbj) hrj
    rw [hbj, hc] at ej
    rw [ej] at hb
    cases hb
    rw [hcr] at hr
    cases hr
    exact ⟨rfl, rfl⟩
  obtain ⟨rfl, rfl⟩ := hsame
  have hvm : vl (mostF xs xs.length) = ((mj * 2 ^ (ij + 1074).toNat : Nat) : Int) := by
    rw [ej]; exact vl_abs hjf hjw hbj hrj
  refine ⟨fr, e, he, he1, he2, ((mj * 2 ^ (ij + 1074).toNat : Nat) : Rat) * Ue Sp, ?_, ?_, ?_, fun l hl => ?_, j, hj, ?_⟩
  · exact Rat.mul_pos (Rat.natCast_pos.2 (Nat.mul_pos (Nat.pos_of_ne_zero hm0) (Nat.two_pow_pos _))) (Ue_pos _)
  · exact (pz_great hm0 hgi (k := 1 - e) (by omega) (by omega) (by omega)).1
  · exact (pz_great hm0 hgi (k := 1 - e) (by omega) (by omega) (by omega)).2
  · obtain ⟨hlf, hlw⟩ := hf l hl
    have hv := hle l hl
    rw [hvm] at hv
    have := vl_of_abs hlf hlw hv
    rw [Rat.intCast_natCast] at this
    exact this
  · rw [hbj, rv_num hrj, signed_cast]
    cases sj
    · left; rw [if_neg (by decide)]
    · right; rw [if_pos rfl, Rat.neg_mul]
theorem frexp_same {N : Nat} {x : Fl} {f f' : Fl} {e e' : Int} (h : ∀ κ : Fl -> Int -> Bool, sQ138 N x κ = κ f e) (g : ∀ κ : Fl -> Int -> Bool, sQ138 N x κ = κ f' e') : e = e' := by
  have h1 := h (fun _ n => decide (n = e))
  have h2 := g (fun _ n => decide (n = e))
  rw [h1] at h2
  have : decide (e' = e) = true := h2.symm.trans (decide_eq_true rfl)
  exact (of_decide_eq_true this).symm
theorem unit_more {N : Nat} (hN : 1000 <= N) {a b c d : Fl} (ha : FW a) (hb : FW b) (hc : FW c) (hd : FW d) (hall : allFin [a, b, c, d] = true) (hne : rv a ≠ 0 \/ rv b ≠ 0 \/ rv c ≠ 0 \/ rv d ≠ 0) :
    ∃ (k : Int) (g : Fl) (G : Rat), -2000 <= k /\ (∀ κ, sQ85 N a b c d κ = κ (fdiv (sclF a k) g) (fdiv (sclF b k) g) (fdiv (sclF c k) g) (fdiv (sclF d k) g) 0) /\
      (FW (fdiv (sclF a k) g) /\ FW (fdiv (sclF b k) g) /\ FW (fdiv (sclF c k) g) /\ FW (fdiv (sclF d k) g)) /\ U4 (fdiv (sclF a k) g) (fdiv (sclF b k) g) (fdiv (sclF c k) g) (fdiv (sclF d k) g) /\
      0 < rv g /\ (Bd (rv (fdiv (sclF a k) g) - rv (sclF a k) / rv g) (205 / 100 * uu) /\ Bd (rv (sclF a k) / rv g) kap) /\ (Bd (rv (fdiv (sclF b k) g) - rv (sclF b k) / rv g) (205 / 100 * uu) /\ Bd (rv (sclF b k) / rv g) kap) /\ (Bd (rv (fdiv (sclF c k) g) - rv (sclF c k) / rv g) (205 / 100 * uu) /\ Bd (rv (sclF c k) / rv g) kap) /\ (Bd (rv (fdiv (sclF d k) g) - rv (sclF d k) / rv g) (205 / 100 * uu) /\ Bd (rv (sclF d k) / rv g) kap) /\
      Bd (Nq (rv (sclF a k) / rv g) (rv (sclF b k) / rv g) (rv (sclF c k) / rv g) (rv (sclF d k) / rv g) - 1) (81 / 10 * uu) /\
      0 < G /\ 1 <= G * pz k /\ G * pz k <= 2 /\ Bd (rv a) G /\ Bd (rv b) G /\ Bd (rv c) G /\ Bd (rv d) G /\ (rv a = G \/ rv a = -G \/ rv b = G \/ rv b = -G \/ rv c = G \/ rv c = -G \/ rv d = G \/ rv d = -G) := by
  have hf := finW_of (FW4 ha hb hc hd) hall
  have h0 : feq (mostF [a, b, c, d] 4) (some 0) = false := by
    cases h0 : feq (mostF [a, b, c, d] 4) (some 0) with
    | false => rfl
    | true =>
      exfalso
      rcases hne with h | h | h | h
      · exact h (most_zero hf h0 (i := 0) (Nat.le_of_ble_eq_true rfl))
      · exact h (most_zero hf h0 (i := 1) (Nat.le_of_ble_eq_true rfl))
      · exact h (most_zero hf h0 (i := 2) (Nat.le_of_ble_eq_true rfl))
      · exact h (most_zero hf h0 (i := 3) (Nat.le_of_ble_eq_true rfl))
  obtain ⟨fr, e, he, he1, he2, hfin, j, hj, hge⟩ := scl_rat (N := N) hf h0
  obtain ⟨fr', e', he', -, -, G, G0, G1, G2, G3, j', hj', hge'⟩ := scl_great (N := N) hf h0
  have hee := frexp_same he he'
  subst hee
  have q := unit_q hN hall hf h0 he he1 he2
  obtain ⟨f0, b0⟩ := hfin 0 (Nat.le_of_ble_eq_true rfl)
  obtain ⟨f1, b1⟩ := hfin 1 (Nat.le_of_ble_eq_true rfl)
  obtain ⟨f2, b2⟩ := hfin 2 (Nat.le_of_ble_eq_true rfl)
  obtain ⟨f3, b3⟩ := hfin 3 (Nat.le_of_ble_eq_true rfl)
  have z0 := sq_nonneg (rv (sclF a (1 - e)))
  have z1 := sq_nonneg (rv (sclF b (1 - e)))
  have z2 := sq_nonneg (rv (sclF c (1 - e)))
  have z3 := sq_nonneg (rv (sclF d (1 - e)))
  have h1 : 1 <= rv (sclF a (1 - e)) * rv (sclF a (1 - e)) + rv (sclF b (1 - e)) * rv (sclF b (1 - e)) + rv (sclF c (1 - e)) * rv (sclF c (1 - e)) + rv (sclF d (1 - e)) * rv (sclF d (1 - e)) := by
    match j, hj, hge with
    | 0, _, h => exact one4 z0 z1 z2 z3 (.inl h)
    | 1, _, h => exact one4 z0 z1 z2 z3 (.inr (.inl h))
    | 2, _, h => exact one4 z0 z1 z2 z3 (.inr (.inr (.inl h)))
    | 3, _, h => exact one4 z0 z1 z2 z3 (.inr (.inr (.inr h)))
  obtain ⟨⟨g0, g1, g2, g3⟩, hu⟩ := unit_near f0 f1 f2 f3 b0 b1 b2 b3 h1 rfl
  obtain ⟨s, t0, t1, t2, t3, tN⟩ := unit_near2 f0 f1 f2 f3 b0 b1 b2 b3 h1 rfl
  refine ⟨1 - e, _, G, by omega, q, ⟨FW_fdiv _ _, FW_fdiv _ _, FW_fdiv _ _, FW_fdiv _ _⟩, ⟨allFin4' g0 g1 g2 g3, hu⟩, s, t0, t1, t2, t3, tN, G0, G1, G2, G3 0 (Nat.le_of_ble_eq_true rfl), G3 1 (Nat.le_of_ble_eq_true rfl), G3 2 (Nat.le_of_ble_eq_true rfl), G3 3 (Nat.le_of_ble_eq_true rfl), ?_⟩
  match j', hj', hge' with
  | 0, _, .inl h => exact .inl h
  | 0, _, .inr h => exact .inr (.inl h)
  | 1, _, .inl h => exact .inr (.inr (.inl h))
  | 1, _, .inr h => exact .inr (.inr (.inr (.inl h)))
  | 2, _, .inl h => exact .inr (.inr (.inr (.inr (.inl h))))
  | 2, _, .inr h => exact .inr (.inr (.inr (.inr (.inr (.inl h)))))
  | 3, _, .inl h => exact .inr (.inr (.inr (.inr (.inr (.inr (.inl h))))))
  | 3, _, .inr h => exact .inr (.inr (.inr (.inr (.inr (.inr (.inr h))))))
end Go.Proofs.YtnfgnjciliapaaaGreatDoor
end
section
namespace Go.Proofs.YtnfgnjciliapaaaGreatDoor
open Go Go.Mach Ieee
set_option linter.unusedVariables false

theorem comp_h {W : Fl} {P : Rat} (hW : Ap W P (27 / 2 * uu)) (hP : Bd P kap) {k : Int} (hk : -2000 <= k) (h1 : 99 / 100 <= pz k) (h5 : pz k <= 5) : Bd (rv (sclF W k) / pz k - P) (147 / 10 * uu) := by
  obtain ⟨α, α0, α1, α2⟩ := abs_ex (rv W)
  have hz := pz_pos k
  have hWb := hW.bd hP
  have hα : α <= 1002 / 1000 := by
    rcases (Rat.le_total : α <= 1002 / 1000 \/ 1002 / 1000 <= α) with h | h
    · exact h
    · have h7 := hWb.sq
      rw [<- α2] at h7
      have := Rat.mul_nonneg (by grind : 0 <= α - 1002 / 1000) (by grind : 0 <= α + 1002 / 1000)
      grind
  have hzb : Bd (pz k) (pz k) := by unfold Bd; exact ⟨by grind, Rat.le_refl⟩
  have hb := α1.mul hzb
  have hB := Bg_ge
  have hbig : α * pz k <= Bg := by
    have := Rat.mul_nonneg (by grind : 0 <= 1002 / 1000 - α) (by grind : 0 <= pz k)
    grind
  have h := scl_near hW.1 hk (hb.mono hbig) _ hb
  have he := eta_le
  have he0 := eta_pos
  have h2 := quo_z hz h1 h (Rat.le_of_lt he0)
  obtain ⟨a1, a2⟩ := h2
  obtain ⟨b1, b2⟩ := hW.2
  generalize rv (sclF W k) / pz k = t at *
  clear h hb hbig hzb hB hWb α1 α2 hW
  constructor <;> grind
theorem g_low {G W X Y Z w x y z : Rat} (hN : Bd (Nq W X Y Z - 1) (1 / 1000)) (hw : Bd (w - W) (27 / 2 * uu)) (hx : Bd (x - X) (27 / 2 * uu)) (hy : Bd (y - Y) (27 / 2 * uu)) (hz : Bd (z - Z) (27 / 2 * uu)) (gw : Bd w G) (gx : Bd x G) (gy : Bd y G) (gz : Bd z G) (h0 : 0 < G) : 2 / 5 <= G := by
  rcases (Rat.le_total : 2 / 5 <= G \/ G <= 2 / 5) with h | h
  · exact h
  · exfalso
    have key : ∀ {t T : Rat}, Bd (t - T) (27 / 2 * uu) -> Bd t G -> T * T <= 41 / 100 * (41 / 100) := by
      intro t T h1 h2
      have h3 : Bd T (41 / 100) := by
        obtain ⟨a, b⟩ := h1
        obtain ⟨c, d⟩ := h2
        exact ⟨by grind, by grind⟩
      exact h3.sq
    have k0 := key hw gw
    have k1 := key hx gx
    have k2 := key hy gy
    have k3 := key hz gz
    have := hN.1
    unfold Nq at this
    grind
theorem z_bd {G z : Rat} (h1 : 1 <= G * z) (h2 : G * z <= 2) (hl : 2 / 5 <= G) (hg : G <= 1002 / 1000) (hz : 0 < z) : 99 / 100 <= z /\ z <= 5 := by
  have a := Rat.mul_nonneg (by grind : 0 <= 1002 / 1000 - G) (by grind : 0 <= z)
  have b := Rat.mul_nonneg (by grind : 0 <= G - 2 / 5) (by grind : 0 <= z)
  constructor <;> grind
theorem ch_alg {z g l : Rat} (hz : z ≠ 0) (hg : g ≠ 0) : z / g * (l / z) = l / g := by grind
theorem chN_alg {c a b d e x y z w : Rat} (h0 : c * a = x) (h1 : c * b = y) (h2 : c * d = z) (h3 : c * e = w) : c * c * Nq a b d e = Nq x y z w := by
  subst h0 h1 h2 h3
  unfold Nq; grind
theorem join_data {N : Nat} (hN : 1000 <= N) {a b c d p q r s : Fl} (h1 : allFin [a, b, c, d] = true) (h2 : allFin [p, q, r, s] = true) (ha : Un (rv a) (rv b) (rv c) (rv d)) (hb : Un (rv p) (rv q) (rv r) (rv s)) :
    ∃ w x y z : Fl, (FW w /\ FW x /\ FW y /\ FW z) /\ U4 w x y z /\ (∀ κ, sQ105 N a b c d p q r s κ = κ w x y z 0) /\ ∃ cc hw hx hy hz : Rat,
      (Bd (hw - (rv a * rv p - rv b * rv q - rv c * rv r - rv d * rv s)) (147 / 10 * uu) /\ Bd (hx - (rv a * rv q + rv b * rv p + rv c * rv s - rv d * rv r)) (147 / 10 * uu) /\ Bd (hy - (rv a * rv r - rv b * rv s + rv c * rv p + rv d * rv q)) (147 / 10 * uu) /\ Bd (hz - (rv a * rv s + rv b * rv r - rv c * rv q + rv d * rv p)) (147 / 10 * uu)) /\
      Bd (cc * cc * Nq hw hx hy hz - 1) (81 / 10 * uu) /\ (Bd (cc * hw) kap /\ Bd (cc * hx) kap /\ Bd (cc * hy) kap /\ Bd (cc * hz) kap) /\
      (Bd (rv w - cc * hw) (205 / 100 * uu) /\ Bd (rv x - cc * hx) (205 / 100 * uu) /\ Bd (rv y - cc * hy) (205 / 100 * uu) /\ Bd (rv z - cc * hz) (205 / 100 * uu)) := by
  obtain ⟨f0, f1, f2, f3⟩ := fin4 h1
  obtain ⟨f4, f5, f6, f7⟩ := fin4 h2
  obtain ⟨b0, b1, b2, b3⟩ := Un_bd ha.n
  obtain ⟨b4, b5, b6, b7⟩ := Un_bd hb.n
  obtain ⟨m0, m1, m2, m3⟩ := qmul_near2 f0 f1 f2 f3 f4 f5 f6 f7 b0 b1 b2 b3 b4 b5 b6 b7
  have hNP := N2 ha hb
  have he := eulerR (rv a) (rv b) (rv c) (rv d) (rv p) (rv q) (rv r) (rv s)
  have hS : 1 / 2 <= Nq (rv a) (rv b) (rv c) (rv d) * Nq (rv p) (rv q) (rv r) (rv s) := by have := hNP.1; grind
  have hn := no_zero he hS (m0.mono (by grind)) (m1.mono (by grind)) (m2.mono (by grind)) (m3.mono (by grind))
  have hall := allFin4' m0.1 m1.1 m2.1 m3.1
  have hNq : Nq (rv a * rv p - rv b * rv q - rv c * rv r - rv d * rv s) (rv a * rv q + rv b * rv p + rv c * rv s - rv d * rv r) (rv a * rv r - rv b * rv s + rv c * rv p + rv d * rv q) (rv a * rv s + rv b * rv r - rv c * rv q + rv d * rv p) = Nq (rv a) (rv b) (rv c) (rv d) * Nq (rv p) (rv q) (rv r) (rv s) := Nq_mul _ _ _ _ _ _ _ _
  rw [<- hNq] at hNP
  have hNP' := hNP.mono (B := 1 / 1000) (by grind)
  obtain ⟨p0, p1, p2, p3⟩ := Un_bd hNP'
  have hjoin : ∀ κ, sQ105 N a b c d p q r s κ = sQ85 N (fsub (fsub (fsub (fmul a p) (fmul b q)) (fmul c r)) (fmul d s)) (fsub (fadd (fadd (fmul a q) (fmul b p)) (fmul c s)) (fmul d r)) (fadd (fadd (fsub (fmul a r) (fmul b s)) (fmul c p)) (fmul d q)) (fadd (fsub (fadd (fmul a s) (fmul b r)) (fmul c q)) (fmul d p)) κ := by
    intro κ
    have e : sQ105 N a b c d p q r s κ = sQ110 N a b c d p q r s (fun x y z w n => cond (n != 0) (κ (some 0) (some 0) (some 0) (some 0) n) (sQ85 N x y z w κ)) := rfl
    rw [e, law_MulQ hN, h1, h2]
    unfold mulK
    dsimp only
    rw [hall, Bool.not_true, cond_false, show ((0 : Int) != 0) = false from rfl, cond_false, show (true && true) = true from rfl, cond_true]
  obtain ⟨k, g, G, hk, hq, hFW, hU, hg0, t0, t1, t2, t3, tN, G0, G1, G2, g0, g1, g2, g3, gj⟩ := unit_more hN (FW_fsub (fsub (fsub (fmul a p) (fmul b q)) (fmul c r)) (fmul d s)) (FW_fsub (fadd (fadd (fmul a q) (fmul b p)) (fmul c s)) (fmul d r)) (FW_fadd (fadd (fsub (fmul a r) (fmul b s)) (fmul c p)) (fmul d q)) (FW_fadd (fsub (fadd (fmul a s) (fmul b r)) (fmul c q)) (fmul d p)) hall hn
  generalize fsub (fsub (fsub (fmul a p) (fmul b q)) (fmul c r)) (fmul d s) = W at *
  generalize fsub (fadd (fadd (fmul a q) (fmul b p)) (fmul c s)) (fmul d r) = X at *
  generalize fadd (fadd (fsub (fmul a r) (fmul b s)) (fmul c p)) (fmul d q) = Y at *
  generalize fadd (fsub (fadd (fmul a s) (fmul b r)) (fmul c q)) (fmul d p) = Z at *
  have hGl := g_low hNP' m0.2 m1.2 m2.2 m3.2 g0 g1 g2 g3 G0
  have w0 := m0.bd p0
  have w1 := m1.bd p1
  have w2 := m2.bd p2
  have w3 := m3.bd p3
  have hGu : G <= 1002 / 1000 := by
    clear hNP hNP' hNq he hS hn hall hjoin hq hFW hU t0 t1 t2 t3 tN m0 m1 m2 m3 p0 p1 p2 p3 ha hb b0 b1 b2 b3 b4 b5 b6 b7
    obtain ⟨w0a, w0b⟩ := w0
    obtain ⟨w1a, w1b⟩ := w1
    obtain ⟨w2a, w2b⟩ := w2
    obtain ⟨w3a, w3b⟩ := w3
    rcases gj with h | h | h | h | h | h | h | h <;> grind
  obtain ⟨z1, z5⟩ := z_bd G1 G2 hGl hGu (pz_pos k)
  have hz0 : pz k ≠ 0 := by have := pz_pos k; grind
  have hgg : rv g ≠ 0 := by intro h; rw [h] at hg0; exact absurd hg0 (by decide)
  have c0 : pz k / rv g * (rv (sclF W k) / pz k) = rv (sclF W k) / rv g := ch_alg hz0 hgg
  have c1 : pz k / rv g * (rv (sclF X k) / pz k) = rv (sclF X k) / rv g := ch_alg hz0 hgg
  have c2 : pz k / rv g * (rv (sclF Y k) / pz k) = rv (sclF Y k) / rv g := ch_alg hz0 hgg
  have c3 : pz k / rv g * (rv (sclF Z k) / pz k) = rv (sclF Z k) / rv g := ch_alg hz0 hgg
  refine ⟨_, _, _, _, hFW, hU, fun κ => by rw [hjoin, hq], pz k / rv g, rv (sclF W k) / pz k, rv (sclF X k) / pz k, rv (sclF Y k) / pz k, rv (sclF Z k) / pz k, ⟨comp_h m0 p0 hk z1 z5, comp_h m1 p1 hk z1 z5, comp_h m2 p2 hk z1 z5, comp_h m3 p3 hk z1 z5⟩, ?_, ?_, ?_⟩
  · rw [chN_alg c0 c1 c2 c3]; exact tN
  · rw [c0, c1, c2, c3]; exact ⟨t0.2, t1.2, t2.2, t3.2⟩
  · rw [c0, c1, c2, c3]; exact ⟨t0.1, t1.1, t2.1, t3.1⟩

theorem turn_full {w x y z p q r : Fl} {M : Rat} (hR : Room M) (h : allFin [w, x, y, z] = true) (hu : Bd (Nq (rv w) (rv x) (rv y) (rv z) - 1) (1 / 1000)) (fp : finF p = true) (fq : finF q = true) (fr : finF r = true) (bp : Bd (rv p) M) (bq : Bd (rv q) M) (br : Bd (rv r) M) :
    Ap (t0 w x y z p q r) (T0 (rv w) (rv x) (rv y) (rv z) (rv p) (rv q) (rv r)) (75 * uu * M) /\ Ap (t1 w x y z p q r) (T0 (rv w) (rv y) (rv z) (rv x) (rv q) (rv r) (rv p)) (75 * uu * M) /\ Ap (t2 w x y z p q r) (T0 (rv w) (rv z) (rv x) (rv y) (rv r) (rv p) (rv q)) (75 * uu * M) := by
  obtain ⟨fw, fx, fy, fz⟩ := fin4 h
  obtain ⟨bw, bx, bY, bz⟩ := Un_bd hu
  obtain ⟨⟨a0, b0⟩, ⟨a1, b1⟩, ⟨a2, b2⟩⟩ := turn_near hR fw bw fx bx fy bY fz bz fp bp fq bq fr br
  exact ⟨turn1_near hR fw bw fy bY fz bz fp bp a0 a1 a2 b0 b1 b2, turn1_near hR fw bw fz bz fx bx fq bq a1 a2 a0 b1 b2 b0, turn1_near hR fw bw fx bx fy bY fr br a2 a0 a1 b2 b0 b1⟩
end Go.Proofs.YtnfgnjciliapaaaGreatDoor
end
section
namespace Go.Proofs.YtnfgnjciliapaaaGreatDoor
open Go Go.Mach Ieee
set_option linter.unusedVariables false

def clQ (N : Nat) (S : Int × Int) (k : Bool -> Bool) (T : Bool) (e : Int) (g : Bool) (l : List Int) : Bool :=
  sQ16 N e e g l (fun e2 g2 l2 => (fits .i64 (2 * (-42))) && (sQ86 N (2 * (-42)) (fun g3 l3 => sQ2 N S.1 (2 * (-42)) (decide (S.2 < 0)) (digs S.2.natAbs) g3 l3 (fun e4 g4 l4 => sQ12 N e2 e4 g2 l2 g4 l4 (fun r => cond (decide (r > 0)) (k false) T)))))
theorem neg_ex {N : Nat} (hN : 1000 <= N) {E B : Nat} {x : Int × Int} (hx : Ex E B x) (hB : B <= 20000) (k : Bool -> List Int -> Bool) : sQ20 N x.1 (decide (x.2 < 0)) (digs x.2.natAbs) k = k (decide ((exNeg x).2 < 0)) (digs (exNeg x).2.natAbs) := by
  unfold sQ20 GQ20
  rw [law_Neg_n _ _ _ (bits_short hN (by omega) hx.2.2), ival_nat]
  rfl
theorem ex84 : Ex 84 1 ((-84 : Int), (1 : Int)) /\ EV ((-84 : Int), (1 : Int)) 1 84 := ⟨⟨by decide, by decide, by show (1 : Int).natAbs < 2 ^ 1; decide⟩, ⟨by decide, by decide⟩⟩
theorem sgn_pos {z : Int} (h : z <= 0) : decide (sgnI z > 0) = false := by
  apply decide_eq_false
  unfold sgnI
  split
  · decide
  · rw [if_pos (by omega)]; decide
theorem mul_diag (N : Nat) (e : Int) (g : Bool) (l : List Int) (k : Int -> Bool -> List Int -> Bool) : sQ16 N e e g l k = sQ2 N e e g l g l k := rfl
theorem clQ_eq {N : Nat} (hN : 1000 <= N) {S X : Int × Int} (hS : Ex 2200 4200 S) (hX : Ex 1100 2254 X) {sv d : Int} (vS : EV S sv (Sc + Sc)) (vX : EV X d Sc) (hle : d * d * 19342813113834066795298816 <= sv) (k : Bool -> Bool) (T : Bool) :
    clQ N S k T X.1 (decide (X.2 < 0)) (digs X.2.natAbs) = T := by
  have xx := hX.mul hX
  have xs := hS.mul ex84.1
  have vx := (vX.mul vX).up 84
  have vs := vS.mul ex84.2
  have hsg : decide (sgnI (exAdd (exMul X X) (exNeg (exMul S (-84, 1)))).2 > 0) = false := by
    rw [(vx.add vs.neg).sgn]
    refine sgn_pos ?_
    rw [show (2 : Int) ^ 84 = 19342813113834066795298816 by decide, Int.mul_one]
    generalize d * d = dd at *
    omega
  unfold clQ
  rw [mul_diag, law_ExMul hN hX hX (by omega) (by omega)]
  unfold exK
  dsimp only
  rw [show (2 * (-42) : Int) = -84 from rfl, and_tr (fits_ok (by omega) (by omega))]
  unfold sQ86 GQ86
  rw [new_one hN]
  have hm := fun κ => law_ExMul hN (hS.mono (E' := 2200) (B' := 4600) (by omega) (by omega)) (ex84.1.mono (E' := 2200) (B' := 4600) (by omega) (by omega)) (by omega) (by omega) κ
  rw [show decide (((-84 : Int), (1 : Int)).2 < 0) = false from rfl, show ((-84 : Int), (1 : Int)).2.natAbs = 1 from rfl, digs_one] at hm
  dsimp only at hm ⊢
  rw [hm]
  unfold exK
  dsimp only
  rw [law_ExCmp hN (xx.mono (E' := 2300) (B' := 4600) (by omega) (by omega)) (xs.mono (E' := 2300) (B' := 4600) (by omega) (by omega)) (by omega), hsg, cond_false]
theorem close1 {N : Nat} (hN : 1000 <= N) {a b : Fl} (fa : finF a = true) (fb : finF b = true) (wa : FW a) (wb : FW b) {S : Int × Int} (hS : Ex 2200 4200 S) {sv : Int} (vS : EV S sv (Sc + Sc)) (hle : (valE a - valE b) * (valE a - valE b) * 19342813113834066795298816 <= sv) (k : Bool -> Bool) (T : Bool) :
    sQ118 N a (fun nr cr nsr => sQ118 N b (fun nr_1 cr_1 nsr_1 => sQ20 N nr_1 cr_1 nsr_1 (fun cr_2 nsr_2 => sQ3 N nr nr_1 cr nsr cr_2 nsr_2 (clQ N S k T nr_1 cr_2 nsr_2) (clQ N S k T nr cr nsr) (fun e g l => clQ N S k T e g l)))) = T := by
  have xa := ofE_Ex fa
  have xb := ofE_Ex fb
  have vX := (valE_EV fa).add (valE_EV fb).neg
  have hX := xa.add xb.neg
  rw [law_Of hN fa wa]
  unfold exK
  dsimp only
  rw [law_Of hN fb wb]
  unfold exK
  dsimp only
  rw [neg_ex hN xb (by omega)]
  have h := law_ExAdd hN xa xb.neg (by omega) (clQ N S k T (ofE b).1 (decide ((exNeg (ofE b)).2 < 0)) (digs (exNeg (ofE b)).2.natAbs)) (clQ N S k T (ofE a).1 (decide ((ofE a).2 < 0)) (digs (ofE a).2.natAbs)) (fun e g l => clQ N S k T e g l) rfl rfl
  refine Eq.trans h ?_
  unfold exK
  exact clQ_eq hN hS hX vS vX (by rw [<- Int.sub_eq_add_neg]; exact hle) k T
theorem law_close {N : Nat} (hN : 1000 <= N) {a0 a1 a2 b0 b1 b2 : Fl} (ha : FinL [a0, a1, a2] 3) (hb : FinL [b0, b1, b2] 3) {S : Int × Int} (hS : Ex 2200 4200 S) {sv : Int} (vS : EV S sv (Sc + Sc))
    (h0 : (valE a0 - valE b0) * (valE a0 - valE b0) * 19342813113834066795298816 <= sv) (h1 : (valE a1 - valE b1) * (valE a1 - valE b1) * 19342813113834066795298816 <= sv) (h2 : (valE a2 - valE b2) * (valE a2 - valE b2) * 19342813113834066795298816 <= sv) (k : Bool -> Bool) :
    sQ21 N a0 a1 a2 b0 b1 b2 (-42) S.1 (decide (S.2 < 0)) (digs S.2.natAbs) k = k true := by
  unfold sQ21 GQ21
  refine (close1 hN (ha 0 (by decide)).1 (hb 0 (by decide)).1 (ha 0 (by decide)).2 (hb 0 (by decide)).2 hS vS h0 k _).trans ?_
  refine (close1 hN (ha 1 (by decide)).1 (hb 1 (by decide)).1 (ha 1 (by decide)).2 (hb 1 (by decide)).2 hS vS h1 k _).trans ?_
  exact close1 hN (ha 2 (by decide)).1 (hb 2 (by decide)).1 (ha 2 (by decide)).2 (hb 2 (by decide)).2 hS vS h2 k (k true)
theorem close_int {x y : Fl} (fx : finF x = true) (fy : finF y = true) {M s : Rat} {sv : Int} (hs : ((sv : Int) : Rat) * Ue (Sc + Sc) = s) (hM : M * M <= s) (h : Bd (rv x - rv y) (2040 * uu * M)) : (valE x - valE y) * (valE x - valE y) * 19342813113834066795298816 <= sv := by
  refine int_of_rat (Ue_pos (Sc + Sc)) ?_
  rw [hs, Rat.intCast_mul, Rat.intCast_mul, Rat.intCast_sub, Ue_add]
  have e : (((valE x : Int) : Rat) - ((valE y : Int) : Rat)) * (((valE x : Int) : Rat) - ((valE y : Int) : Rat)) * ((19342813113834066795298816 : Int) : Rat) * (Ue Sc * Ue Sc) = (rv x - rv y) * (rv x - rv y) * ((19342813113834066795298816 : Int) : Rat) := by
    rw [<- val_rv fx, <- val_rv fy]
    generalize ((valE x : Int) : Rat) = a
    generalize ((valE y : Int) : Rat) = b
    generalize Ue Sc = u
    generalize ((19342813113834066795298816 : Int) : Rat) = w
    grind
  rw [e]
  have hq := h.sq
  have e2 : 2040 * uu * M * (2040 * uu * M) = 2040 * uu * (2040 * uu) * (M * M) := by grind
  rw [e2] at hq
  have e3 : ((19342813113834066795298816 : Int) : Rat) = 19342813113834066795298816 := rfl
  rw [e3]
  have m0 := sq_nonneg M
  generalize (rv x - rv y) * (rv x - rv y) = q at *
  generalize M * M = mm at *
  grind

theorem one_Ap : Ap (some 4607182418800017408) 1 0 := by
  obtain ⟨h1, h2⟩ := rv_pow read_one (n := 0) (by decide)
  have e4 : Ue 0 = 1 := by
    have := Ue_mul 0
    rw [show (2 : Rat) ^ 0 = 1 by decide +kernel, Rat.one_mul] at this
    exact this
  refine ⟨h1, ?_⟩
  rw [h2, e4]; unfold Bd; grind
theorem twice_near {x : Fl} {a : Rat} (h : Ap x a (81 / 20 * uu) /\ Bd a (203 / 100)) : Ap (fmul (some 4611686018427387904) x) (2 * a) (123 / 10 * uu) /\ Bd (2 * a) (407 / 100) := by
  have h22 : Bd (2 : Rat) 2 := by unfold Bd; grind
  have hB := Bg_ge
  have he := eta_le
  have he0 := eta_pos
  refine ⟨(Ap.mul two_Ap h.1 h22 h.2 (by grind) (h := uu / 1000) (by grind) (.inr (by grind))).mono (by grind), (h22.mul h.2).mono (by grind)⟩
theorem diag_near {y z : Fl} (fy : finF y = true) (fz : finF z = true) (bY : Bd (rv y) kap) (bz : Bd (rv z) kap) : Ap (fsub (some 4607182418800017408) (fmul (some 4611686018427387904) (fadd (fmul y y) (fmul z z)))) (1 - 2 * (rv y * rv y + rv z * rv z)) (18 * uu) /\ Bd (1 - 2 * (rv y * rv y + rv z * rv z)) (508 / 100) := by
  have h1 := twice_near (add_st (E := 81 / 20 * uu) (D := 203 / 100) (p_near fy fy bY bY) (p_near fz fz bz bz) (by grind) (by grind) (by grind))
  have h2 : Ap (some 4607182418800017408) 1 0 /\ Bd (1 : Rat) 1 := ⟨one_Ap, by unfold Bd; grind⟩
  exact sub_st h2 h1 (by grind) (by grind) (by grind)
theorem offm_near {x y w z : Fl} (fx : finF x = true) (fy : finF y = true) (fw : finF w = true) (fz : finF z = true) (bx : Bd (rv x) kap) (bY : Bd (rv y) kap) (bw : Bd (rv w) kap) (bz : Bd (rv z) kap) :
    (Ap (fmul (some 4611686018427387904) (fsub (fmul x y) (fmul w z))) (2 * (rv x * rv y - rv w * rv z)) (18 * uu) /\ Bd (2 * (rv x * rv y - rv w * rv z)) (508 / 100)) /\
    (Ap (fmul (some 4611686018427387904) (fadd (fmul x y) (fmul w z))) (2 * (rv x * rv y + rv w * rv z)) (18 * uu) /\ Bd (2 * (rv x * rv y + rv w * rv z)) (508 / 100)) := by
  have h1 := twice_near (sub_st (E := 81 / 20 * uu) (D := 203 / 100) (p_near fx fy bx bY) (p_near fw fz bw bz) (by grind) (by grind) (by grind))
  have h2 := twice_near (add_st (E := 81 / 20 * uu) (D := 203 / 100) (p_near fx fy bx bY) (p_near fw fz bw bz) (by grind) (by grind) (by grind))
  exact ⟨⟨h1.1.mono (by grind), h1.2.mono (by grind)⟩, ⟨h2.1.mono (by grind), h2.2.mono (by grind)⟩⟩
theorem ent_near {m p : Fl} {e M : Rat} (hR : Room M) (h : Ap m e (18 * uu) /\ Bd e (508 / 100)) (fp : finF p = true) (bp : Bd (rv p) M) : Ap (fmul m p) (e * rv p) (24 * uu * M) /\ Bd (e * rv p) (508 / 100 * M) := by
  obtain ⟨h0, h1, h2⟩ := hR
  refine ⟨(Ap.mul h.1 (Ap.self fp) h.2 bp (by grind) (h := uu * M / 1000) (by grind) ?_).mono (by grind), h.2.mul bp⟩
  rcases h1 with h | h
  · left; rw [h]; grind
  · right; exact h
theorem row_near {m0 m1 m2 p q r : Fl} {e0 e1 e2 M : Rat} (hR : Room M) (h0 : Ap m0 e0 (18 * uu) /\ Bd e0 (508 / 100)) (h1 : Ap m1 e1 (18 * uu) /\ Bd e1 (508 / 100)) (h2 : Ap m2 e2 (18 * uu) /\ Bd e2 (508 / 100)) (fp : finF p = true) (fq : finF q = true) (fr : finF r = true) (bp : Bd (rv p) M) (bq : Bd (rv q) M) (br : Bd (rv r) M) :
    Ap (fadd (fadd (fmul m0 p) (fmul m1 q)) (fmul m2 r)) (e0 * rv p + e1 * rv q + e2 * rv r) (100 * uu * M) := by
  have a := ent_near hR h0 fp bp
  have b := ent_near hR h1 fq bq
  have c := ent_near hR h2 fr br
  obtain ⟨r0, r1, r2⟩ := hR
  have ab := (Ap.add a.1 b.1 (a.2.add b.2) (by grind)).mono (f := 60 * uu * M) (by grind)
  exact (Ap.add ab c.1 ((a.2.add b.2).add c.2) (by grind)).mono (by grind)
end Go.Proofs.YtnfgnjciliapaaaGreatDoor
end
section
namespace Go.Proofs.YtnfgnjciliapaaaGreatDoor
open Go Go.Mach Ieee
set_option linter.unusedVariables false

theorem comb4 {o A D B t e1 e2 e3 e4 E : Rat} (h1 : Bd (o - A) e1) (h2 : Bd (A - D) e2) (h3 : Bd (B - D) e3) (h4 : Bd (t - B) e4) (hE : e1 + e2 + e3 + e4 <= E) : Bd (o - t) E := by
  obtain ⟨a1, a2⟩ := h1
  obtain ⟨b1, b2⟩ := h2
  obtain ⟨c1, c2⟩ := h3
  obtain ⟨d1, d2⟩ := h4
  constructor <;> grind
theorem comb3 {o A D B e1 e2 e3 E : Rat} (h1 : Bd (o - A) e1) (h2 : Bd (A - D) e2) (h3 : Bd (D - B) e3) (hE : e1 + e2 + e3 <= E) : Bd (o - B) E := by
  obtain ⟨a1, a2⟩ := h1
  obtain ⟨b1, b2⟩ := h2
  obtain ⟨c1, c2⟩ := h3
  constructor <;> grind
theorem comb2 {o A B e1 e2 E : Rat} (h1 : Bd (o - A) e1) (h2 : Bd (B - A) e2) (hE : e1 + e2 <= E) : Bd (o - B) E := by
  obtain ⟨a1, a2⟩ := h1
  obtain ⟨b1, b2⟩ := h2
  constructor <;> grind
theorem allFin3x {a b c : Fl} (h0 : finF a = true) (h1 : finF b = true) (h2 : finF c = true) : allFin [a, b, c] = true := by
  refine allN_iff.2 fun i hi => ?_
  have hi : i < 3 := hi
  match i, hi with
  | 0, _ => exact h0
  | 1, _ => exact h1
  | 2, _ => exact h2
theorem fin3x {a b c : Fl} (h0 : finF a = true) (h1 : finF b = true) (h2 : finF c = true) (w0 : FW a) (w1 : FW b) (w2 : FW c) : FinL [a, b, c] 3 := finL3 (allFin3x h0 h1 h2) w0 w1 w2
theorem law_ConjQ {N : Nat} (hN : 1000 <= N) {a b c d : Fl} (h : allFin [a, b, c, d] = true) (κ : K4) : sQ107 N a b c d κ = κ a (fneg b) (fneg c) (fneg d) 0 := by
  unfold sQ107 GQ107
  rw [law_good hN, h]; rfl
theorem mid_bd {t : Fl} {w x y z p q r M : Rat} (h : Ap t (T0 w x y z p q r) (75 * uu * M)) (hn : Bd (Nq w x y z - 1) (1 / 1000)) (hp : Bd p M) (hq : Bd q M) (hr : Bd r M) : Bd (rv t) (304 / 100 * M) := by
  have m0 := hp.nonneg
  exact (h.bd (T0_bd hn hp hq hr)).mono (by grind)
theorem q1 {a b c d p q r s : Fl} {jw jx jy jz u v t M : Rat} {cc hw hx hy hz : Rat} (ha : Un (rv a) (rv b) (rv c) (rv d)) (hb : Un (rv p) (rv q) (rv r) (rv s))
    (gw : Bd (hw - (rv a * rv p - rv b * rv q - rv c * rv r - rv d * rv s)) (147 / 10 * uu)) (gx : Bd (hx - (rv a * rv q + rv b * rv p + rv c * rv s - rv d * rv r)) (147 / 10 * uu)) (gy : Bd (hy - (rv a * rv r - rv b * rv s + rv c * rv p + rv d * rv q)) (147 / 10 * uu)) (gz : Bd (hz - (rv a * rv s + rv b * rv r - rv c * rv q + rv d * rv p)) (147 / 10 * uu))
    (hY : Bd (cc * cc * Nq hw hx hy hz - 1) (81 / 10 * uu)) (cw : Bd (cc * hw) kap) (cx : Bd (cc * hx) kap) (cy : Bd (cc * hy) kap) (cz : Bd (cc * hz) kap)
    (dw : Bd (jw - cc * hw) (205 / 100 * uu)) (dx : Bd (jx - cc * hx) (205 / 100 * uu)) (dy : Bd (jy - cc * hy) (205 / 100 * uu)) (dz : Bd (jz - cc * hz) (205 / 100 * uu))
    (hj : Bd (Nq jw jx jy jz - 1) (1 / 562949953421312)) (hu : Bd u M) (hv : Bd v M) (ht : Bd t M)
    {o0 o1 o2 m0 m1 m2 w0 w1 w2 : Fl} (O0 : Ap o0 (T0 jw jx jy jz u v t) (75 * uu * M)) (O1 : Ap o1 (T0 jw jy jz jx v t u) (75 * uu * M)) (O2 : Ap o2 (T0 jw jz jx jy t u v) (75 * uu * M))
    (M0 : Ap m0 (T0 (rv p) (rv q) (rv r) (rv s) u v t) (75 * uu * M)) (M1 : Ap m1 (T0 (rv p) (rv r) (rv s) (rv q) v t u) (75 * uu * M)) (M2 : Ap m2 (T0 (rv p) (rv s) (rv q) (rv r) t u v) (75 * uu * M))
    (W0 : Ap w0 (T0 (rv a) (rv b) (rv c) (rv d) (rv m0) (rv m1) (rv m2)) (75 * uu * (304 / 100 * M))) (W1 : Ap w1 (T0 (rv a) (rv c) (rv d) (rv b) (rv m1) (rv m2) (rv m0)) (75 * uu * (304 / 100 * M))) (W2 : Ap w2 (T0 (rv a) (rv d) (rv b) (rv c) (rv m2) (rv m0) (rv m1)) (75 * uu * (304 / 100 * M))) :
    Bd (rv o0 - rv w0) (2040 * uu * M) /\ Bd (rv o1 - rv w1) (2040 * uu * M) /\ Bd (rv o2 - rv w2) (2040 * uu * M) := by
  have hM := hu.nonneg
  have k0 := close0 ha hb gw gx gy gz hY cw cx cy cz dw dx dy dz hj hu hv ht
  have n1 : Nq hw hy hz hx = Nq hw hx hy hz := by unfold Nq; grind
  have n2 : Nq hw hz hx hy = Nq hw hx hy hz := by unfold Nq; grind
  have l1 : Nq jw jy jz jx = Nq jw jx jy jz := by unfold Nq; grind
  have l2 : Nq jw jz jx jy = Nq jw jx jy jz := by unfold Nq; grind
  have k1 := close0 (a := rv a) (b := rv c) (c := rv d) (d := rv b) (p := rv p) (q := rv r) (r := rv s) (s := rv q) ha.cyc hb.cyc (hw := hw) (hx := hy) (hy := hz) (hz := hx) (jw := jw) (jx := jy) (jy := jz) (jz := jx) (cc := cc)
    (by have e : rv a * rv p - rv c * rv r - rv d * rv s - rv b * rv q = rv a * rv p - rv b * rv q - rv c * rv r - rv d * rv s := by grind
        rw [e]; exact gw)
    (by have e : rv a * rv r + rv c * rv p + rv d * rv q - rv b * rv s = rv a * rv r - rv b * rv s + rv c * rv p + rv d * rv q := by grind
        rw [e]; exact gy)
    (by have e : rv a * rv s - rv c * rv q + rv d * rv p + rv b * rv r = rv a * rv s + rv b * rv r - rv c * rv q + rv d * rv p := by grind
        rw [e]; exact gz)
    (by have e : rv a * rv q + rv c * rv s - rv d * rv r + rv b * rv p = rv a * rv q + rv b * rv p + rv c * rv s - rv d * rv r := by grind
        rw [e]; exact gx)
    (by rw [n1]; exact hY) cw cy cz cx dw dy dz dx (by rw [l1]; exact hj) hv ht hu
  have k2 := close0 (a := rv a) (b := rv d) (c := rv b) (d := rv c) (p := rv p) (q := rv s) (r := rv q) (s := rv r) ha.cyc.cyc hb.cyc.cyc (hw := hw) (hx := hz) (hy := hx) (hz := hy) (jw := jw) (jx := jz) (jy := jx) (jz := jy) (cc := cc)
    (by have e : rv a * rv p - rv d * rv s - rv b * rv q - rv c * rv r = rv a * rv p - rv b * rv q - rv c * rv r - rv d * rv s := by grind
        rw [e]; exact gw)
    (by have e : rv a * rv s + rv d * rv p + rv b * rv r - rv c * rv q = rv a * rv s + rv b * rv r - rv c * rv q + rv d * rv p := by grind
        rw [e]; exact gz)
    (by have e : rv a * rv q - rv d * rv r + rv b * rv p + rv c * rv s = rv a * rv q + rv b * rv p + rv c * rv s - rv d * rv r := by grind
        rw [e]; exact gx)
    (by have e : rv a * rv r + rv d * rv q - rv b * rv s + rv c * rv p = rv a * rv r - rv b * rv s + rv c * rv p + rv d * rv q := by grind
        rw [e]; exact gy)
    (by rw [n2]; exact hY) cw cz cx cy dw dz dx dy (by rw [l2]; exact hj) ht hu hv
  have t0 := through ha M0.2 M1.2 M2.2
  have t1 := through ha.cyc M1.2 M2.2 M0.2
  have t2 := through ha.cyc.cyc M2.2 M0.2 M1.2
  refine ⟨comb4 O0.2 k0 t0 W0.2 ?_, comb4 O1.2 k1 t1 W1.2 ?_, comb4 O2.2 k2 t2 W2.2 ?_⟩ <;> grind
theorem q2 {a b c d : Rat} {u v t M : Rat} (ha : Un a b c d) (hu : Bd u M) (hv : Bd v M) (ht : Bd t M) {o0 o1 o2 w0 w1 w2 : Fl} (O0 : Ap o0 (T0 a b c d u v t) (75 * uu * M)) (O1 : Ap o1 (T0 a c d b v t u) (75 * uu * M)) (O2 : Ap o2 (T0 a d b c t u v) (75 * uu * M))
    (W0 : Ap w0 (T0 a (-b) (-c) (-d) (rv o0) (rv o1) (rv o2)) (75 * uu * (304 / 100 * M))) (W1 : Ap w1 (T0 a (-c) (-d) (-b) (rv o1) (rv o2) (rv o0)) (75 * uu * (304 / 100 * M))) (W2 : Ap w2 (T0 a (-d) (-b) (-c) (rv o2) (rv o0) (rv o1)) (75 * uu * (304 / 100 * M))) :
    Bd (rv w0 - u) (2040 * uu * M) /\ Bd (rv w1 - v) (2040 * uu * M) /\ Bd (rv w2 - t) (2040 * uu * M) := by
  have hM := hu.nonneg
  have k0 := back0 ha hu hv ht
  have k1 := back0 ha.cyc hv ht hu
  have k2 := back0 ha.cyc.cyc ht hu hv
  have t0 := through ha.neg O0.2 O1.2 O2.2
  have t1 := through ha.cyc.neg O1.2 O2.2 O0.2
  have t2 := through ha.cyc.cyc.neg O2.2 O0.2 O1.2
  refine ⟨comb3 W0.2 t0 k0 ?_, comb3 W1.2 t1 k1 ?_, comb3 W2.2 t2 k2 ?_⟩ <;> grind
theorem q3 {w x y z u v t : Fl} {M : Rat} (hR : Room M) (h : allFin [w, x, y, z] = true) (hn : Bd (Nq (rv w) (rv x) (rv y) (rv z) - 1) (1 / 1000)) (fu : finF u = true) (fv : finF v = true) (ft : finF t = true) (hu : Bd (rv u) M) (hv : Bd (rv v) M) (ht : Bd (rv t) M)
    {o0 o1 o2 : Fl} (O0 : Ap o0 (T0 (rv w) (rv x) (rv y) (rv z) (rv u) (rv v) (rv t)) (75 * uu * M)) (O1 : Ap o1 (T0 (rv w) (rv y) (rv z) (rv x) (rv v) (rv t) (rv u)) (75 * uu * M)) (O2 : Ap o2 (T0 (rv w) (rv z) (rv x) (rv y) (rv t) (rv u) (rv v)) (75 * uu * M)) :
    allFin (matE w x y z) = true /\
    (finF (fadd (fadd (fmul (List.getD (matE w x y z) 0 none) u) (fmul (List.getD (matE w x y z) 1 none) v)) (fmul (List.getD (matE w x y z) 2 none) t)) = true /\ Bd (rv o0 - rv (fadd (fadd (fmul (List.getD (matE w x y z) 0 none) u) (fmul (List.getD (matE w x y z) 1 none) v)) (fmul (List.getD (matE w x y z) 2 none) t))) (2040 * uu * M)) /\
    (finF (fadd (fadd (fmul (List.getD (matE w x y z) 3 none) u) (fmul (List.getD (matE w x y z) 4 none) v)) (fmul (List.getD (matE w x y z) 5 none) t)) = true /\ Bd (rv o1 - rv (fadd (fadd (fmul (List.getD (matE w x y z) 3 none) u) (fmul (List.getD (matE w x y z) 4 none) v)) (fmul (List.getD (matE w x y z) 5 none) t))) (2040 * uu * M)) /\
    (finF (fadd (fadd (fmul (List.getD (matE w x y z) 6 none) u) (fmul (List.getD (matE w x y z) 7 none) v)) (fmul (List.getD (matE w x y z) 8 none) t)) = true /\ Bd (rv o2 - rv (fadd (fadd (fmul (List.getD (matE w x y z) 6 none) u) (fmul (List.getD (matE w x y z) 7 none) v)) (fmul (List.getD (matE w x y z) 8 none) t))) (2040 * uu * M)) := by
  obtain ⟨fw, fx, fy, fz⟩ := fin4 h
  obtain ⟨bw, bx, bY, bz⟩ := Un_bd hn
  have hM := hu.nonneg
  have d0 := diag_near fy fz bY bz
  have d4 := diag_near fx fz bx bz
  have d8 := diag_near fx fy bx bY
  obtain ⟨d1, d3⟩ := offm_near fx fy fw fz bx bY bw bz
  obtain ⟨d6, d2⟩ := offm_near fx fz fw fy bx bz bw bY
  obtain ⟨d5, d7⟩ := offm_near fy fz fw fx bY bz bw bx
  have r0 := row_near hR d0 d1 d2 fu fv ft hu hv ht
  have r1 := row_near hR d3 d4 d5 fu fv ft hu hv ht
  have r2 := row_near hR d6 d7 d8 fu fv ft hu hv ht
  have e0 := T0_mat (rv w) (rv x) (rv y) (rv z) (rv u) (rv v) (rv t)
  have e1 : T0 (rv w) (rv y) (rv z) (rv x) (rv v) (rv t) (rv u) = 2 * (rv x * rv y + rv w * rv z) * rv u + (1 - 2 * (rv x * rv x + rv z * rv z)) * rv v + 2 * (rv y * rv z - rv w * rv x) * rv t := by rw [T0_mat]; grind
  have e2 : T0 (rv w) (rv z) (rv x) (rv y) (rv t) (rv u) (rv v) = 2 * (rv x * rv z - rv w * rv y) * rv u + 2 * (rv y * rv z + rv w * rv x) * rv v + (1 - 2 * (rv x * rv x + rv y * rv y)) * rv t := by rw [T0_mat]; grind
  rw [e0] at O0
  rw [e1] at O1
  rw [e2] at O2
  refine ⟨?_, ⟨r0.1, comb2 O0.2 r0.2 (by grind)⟩, ⟨r1.1, comb2 O1.2 r1.2 (by grind)⟩, ⟨r2.1, comb2 O2.2 r2.2 (by grind)⟩⟩
  refine allN_iff.2 fun i hi => ?_
  have hi : i < 9 := hi
  match i, hi with
  | 0, _ => exact d0.1.1
  | 1, _ => exact d1.1.1
  | 2, _ => exact d2.1.1
  | 3, _ => exact d3.1.1
  | 4, _ => exact d4.1.1
  | 5, _ => exact d5.1.1
  | 6, _ => exact d6.1.1
  | 7, _ => exact d7.1.1
  | 8, _ => exact d8.1.1
end Go.Proofs.YtnfgnjciliapaaaGreatDoor
end
section
namespace Go.Proofs.YtnfgnjciliapaaaGreatDoor
open Go Go.Mach Ieee
set_option linter.unusedVariables false

theorem law_squares {N : Nat} (hN : 1000 <= N) {a b c : Fl} (h : FinL [a, b, c] 3) (k : Int -> Bool -> List Int -> Bool) : sQ31 N a b c k = exK (dotE [a, b, c] [a, b, c] 3) k := by
  unfold sQ31 GQ31
  rw [law_DotE hN rfl (Nat.le_of_ble_eq_true rfl) h h]
  rfl
theorem law_QuatJoined {N : Nat} (hN : 1000 <= N) {x0 x1 x2 x3 y0 y1 y2 y3 u0 u1 u2 : Int} (h0 : x0.toNat < 18446744073709551616) (h1 : x1.toNat < 18446744073709551616) (h2 : x2.toNat < 18446744073709551616) (h3 : x3.toNat < 18446744073709551616)
    (i0 : y0.toNat < 18446744073709551616) (i1 : y1.toNat < 18446744073709551616) (i2 : y2.toNat < 18446744073709551616) (i3 : y3.toNat < 18446744073709551616) (g0 : u0.toNat < 18446744073709551616) (g1 : u1.toNat < 18446744073709551616) (g2 : u2.toNat < 18446744073709551616) (k : Bool -> Bool) :
    sQ51 N x0 x1 x2 x3 y0 y1 y2 y3 u0 u1 u2 k = k true := by
  have hv : ∀ (x y z w : Int) (k : Fl -> Fl -> Fl -> Fl -> Bool), sQ41 N x y z w k = k (canon x.toNat) (canon y.toNat) (canon z.toNat) (canon w.toNat) := fun _ _ _ _ _ => rfl
  have hu : ∀ (x y z : Int) (k : Fl -> Fl -> Fl -> Bool), sQ46 N x y z k = k (canon x.toNat) (canon y.toNat) (canon z.toNat) := fun _ _ _ _ => rfl
  have w0 := canon_FW h0
  have w1 := canon_FW h1
  have w2 := canon_FW h2
  have w3 := canon_FW h3
  have w4 := canon_FW i0
  have w5 := canon_FW i1
  have w6 := canon_FW i2
  have w7 := canon_FW i3
  have v0 := canon_FW g0
  have v1 := canon_FW g1
  have v2 := canon_FW g2
  unfold sQ51 GQ51
  rw [law_awake hN, Bool.not_true, cond_false, hv, hv, hu]
  generalize canon x0.toNat = w at *
  generalize canon x1.toNat = x at *
  generalize canon x2.toNat = y at *
  generalize canon x3.toNat = z at *
  generalize canon y0.toNat = p at *
  generalize canon y1.toNat = q at *
  generalize canon y2.toNat = r at *
  generalize canon y3.toNat = s at *
  generalize canon u0.toNat = a at *
  generalize canon u1.toNat = b at *
  generalize canon u2.toNat = c at *
  have f0 : ((!false) == false) = false := rfl
  have f1 : ((!true) == false) = true := rfl
  cases hA : allFin [w, x, y, z] with
  | false => rw [law_quat_Good_nf hN hA, f0, cond_false]
  | true =>
  rw [lawQ71 hN hA w0 w1 w2 w3]
  by_cases hgA : sgnI (offE w x y z) <= 0
  case neg => rw [decide_eq_false hgA, f0, cond_false]
  rw [decide_eq_true hgA, f1, cond_true]
  cases hB : allFin [p, q, r, s] with
  | false => rw [law_quat_Good_nf hN hB, f0, cond_false]
  | true =>
  rw [lawQ71 hN hB w4 w5 w6 w7]
  by_cases hgB : sgnI (offE p q r s) <= 0
  case neg => rw [decide_eq_false hgB, f0, cond_false]
  rw [decide_eq_true hgB, f1, cond_true, law_tame hN]
  cases htame : (tameB a && (tameB b && tameB c)) with
  | false => rfl
  | true =>
  rw [Bool.and_eq_true, Bool.and_eq_true] at htame
  obtain ⟨ta, tb, tc⟩ := htame
  obtain ⟨fa, Ta⟩ := tame_ok v0 ta
  obtain ⟨fb, Tb⟩ := tame_ok v1 tb
  obtain ⟨fc, Tc⟩ := tame_ok v2 tc
  have uA : Un (rv w) (rv x) (rv y) (rv z) := good_rv (finL4 hA w0 w1 w2 w3) hgA
  have uB : Un (rv p) (rv q) (rv r) (rv s) := good_rv (finL4 hB w4 w5 w6 w7) hgB
  obtain ⟨M, m0, m1, m2, m3, m4, m5⟩ := three_max (rv a) (rv b) (rv c)
  have hR := Tm.room Ta Tb Tc m0 m5
  have hR2 := room_mul (c := 304 / 100) (Tm.bnd Ta Tb Tc m0 m5) (by grind) (by grind)
  have hV := allFin3x fa fb fc
  have LV := finL3 hV v0 v1 v2
  obtain ⟨jw, jx, jy, jz, ⟨n0, n1, n2, n3⟩, ⟨hJ, uJ⟩, hjoin, cc, hw, hx, hy, hz, ⟨d0, d1, d2, d3⟩, hY, ⟨c0, c1, c2, c3⟩, ⟨e0, e1, e2, e3⟩⟩ := join_data hN hA hB uA uB
  have uJ' : Bd (Nq (rv jw) (rv jx) (rv jy) (rv jz) - 1) (1 / 1000) := uJ.mono (by grind)
  obtain ⟨O0, O1, O2⟩ := turn_full hR hJ uJ' fa fb fc m1 m2 m3
  have tJ := fun κ => lawQ77 hN hJ hV (allFin3x O0.1 O1.1 O2.1) κ
  obtain ⟨B0, B1, B2⟩ := turn_full hR hB uB.n fa fb fc m1 m2 m3
  have tB := fun κ => lawQ77 hN hB hV (allFin3x B0.1 B1.1 B2.1) κ
  have bB0 := mid_bd B0 uB.n m1 m2 m3
  have bB1 := mid_bd B1 uB.cyc.n m2 m3 m1
  have bB2 := mid_bd B2 uB.cyc.cyc.n m3 m1 m2
  obtain ⟨W0, W1, W2⟩ := turn_full hR2 hA uA.n B0.1 B1.1 B2.1 bB0 bB1 bB2
  have tW := fun κ => lawQ77 hN hA (allFin3x B0.1 B1.1 B2.1) (allFin3x W0.1 W1.1 W2.1) κ
  have Q1 := q1 uA uB d0 d1 d2 d3 hY c0 c1 c2 c3 e0 e1 e2 e3 uJ m1 m2 m3 O0 O1 O2 B0 B1 B2 W0 W1 W2
  obtain ⟨A0, A1, A2⟩ := turn_full hR hA uA.n fa fb fc m1 m2 m3
  have tA := fun κ => lawQ77 hN hA hV (allFin3x A0.1 A1.1 A2.1) κ
  have bA0 := mid_bd A0 uA.n m1 m2 m3
  have bA1 := mid_bd A1 uA.cyc.n m2 m3 m1
  have bA2 := mid_bd A2 uA.cyc.cyc.n m3 m1 m2
  obtain ⟨fw, fx, fy, fz⟩ := fin4 hA
  obtain ⟨nx, rx⟩ := rv_neg w1 fx
  obtain ⟨ny, ry⟩ := rv_neg w2 fy
  obtain ⟨nz, rz⟩ := rv_neg w3 fz
  have hC := allFin4' fw nx ny nz
  have uC : Bd (Nq (rv w) (rv (fneg x)) (rv (fneg y)) (rv (fneg z)) - 1) (1 / 1000) := by rw [rx, ry, rz]; exact uA.neg.n
  obtain ⟨C0, C1, C2⟩ := turn_full hR2 hC uC A0.1 A1.1 A2.1 bA0 bA1 bA2
  have tC := fun κ => lawQ77 hN hC (allFin3x A0.1 A1.1 A2.1) (allFin3x C0.1 C1.1 C2.1) κ
  rw [rx, ry, rz] at C0 C1 C2
  have Q2 := q2 uA m1 m2 m3 A0 A1 A2 C0 C1 C2
  obtain ⟨hM, Q30, Q31, Q32⟩ := q3 hR hA uA.n fa fb fc m1 m2 m3 A0 A1 A2
  have xS := dotE_Ex (n := 3) (Nat.le_of_ble_eq_true rfl) LV LV
  have vS := dotE_EV 3 LV LV
  have hs := dot3_rv LV
  have sqv := fun κ => law_squares hN LV κ
  have LO := fin3x O0.1 O1.1 O2.1 (FW_fadd _ _) (FW_fadd _ _) (FW_fadd _ _)
  have LW := fin3x W0.1 W1.1 W2.1 (FW_fadd _ _) (FW_fadd _ _) (FW_fadd _ _)
  have LA := fin3x A0.1 A1.1 A2.1 (FW_fadd _ _) (FW_fadd _ _) (FW_fadd _ _)
  have LC := fin3x C0.1 C1.1 C2.1 (FW_fadd _ _) (FW_fadd _ _) (FW_fadd _ _)
  have LM := fin3x Q30.1 Q31.1 Q32.1 (FW_fadd _ _) (FW_fadd _ _) (FW_fadd _ _)
  have K1 := fun κ => law_close hN LO LW xS vS (close_int O0.1 W0.1 hs m4 Q1.1) (close_int O1.1 W1.1 hs m4 Q1.2.1) (close_int O2.1 W2.1 hs m4 Q1.2.2) κ
  have K2' := fun κ => law_close hN LC LV xS vS (close_int C0.1 fa hs m4 Q2.1) (close_int C1.1 fb hs m4 Q2.2.1) (close_int C2.1 fc hs m4 Q2.2.2) κ
  have K3 := fun κ => law_close hN LA LM xS vS (close_int A0.1 Q30.1 hs m4 Q30.2) (close_int A1.1 Q31.1 hs m4 Q31.2) (close_int A2.1 Q32.1 hs m4 Q32.2) κ
  have z1 : (((0 : Int) != 0) == false) = true := rfl
  have z2 : ((0 : Int) != 0) = false := rfl
  rw [Bool.not_true, cond_false, sqv]
  unfold exK
  dsimp only
  rw [hjoin, tJ, tB, z1, cond_true, cond_true, z2, cond_false, tW, z1, cond_true, K1, Bool.not_true, cond_false, law_ConjQ hN hA, tA, tC, z1, cond_true, cond_true, cond_true, K2', Bool.not_true, cond_false, law_Matrix hN, hA, hM, cond_true, cond_true, z1, cond_true]
  have hlen : (matE w x y z).length = 9 := rfl
  rw [hlen]
  exact K3 k
end Go.Proofs.YtnfgnjciliapaaaGreatDoor
end
