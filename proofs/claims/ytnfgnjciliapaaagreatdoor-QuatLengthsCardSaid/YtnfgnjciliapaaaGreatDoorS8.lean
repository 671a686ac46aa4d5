/-
  THE LAW QuatLengths: what is turned keeps its length.
  Conditions: words.
-/
import Derived.Test.YtnfgnjciliapaaaGreatDoorL2
import Derived.Test.YtnfgnjciliapaaaGreatDoorS0
import Derived.Test.YtnfgnjciliapaaaGreatDoorFlG
section
namespace Go.Proofs.YtnfgnjciliapaaaGreatDoor
open Go Go.Mach Ieee
set_option linter.unusedVariables false

theorem ldexp_S {N : Nat} (hN : 1000 <= N) (κ : Fl -> Bool) : sQ102 N (some 4607182418800017408) (-400) κ = κ cS := by
  obtain ⟨M, rfl⟩ : ∃ M, N = M + 1000 := ⟨N - 1000, by omega⟩
  kernel_rfl
theorem ldexp_G {N : Nat} (hN : 1000 <= N) (κ : Fl -> Bool) : sQ102 N (some 4607182418800017408) 400 κ = κ cG := by
  obtain ⟨M, rfl⟩ : ∃ M, N = M + 1000 := ⟨N - 1000, by omega⟩
  kernel_rfl
theorem law_absF (N : Nat) (x : Fl) (κ : Fl -> Bool) : s_m_Abs N x κ = κ (absF x) := rfl
theorem law_tame {N : Nat} (hN : 1000 <= N) (a b c : Fl) (k : Bool -> Bool) : sQ46 N a b c k = k (tameB a && (tameB b && tameB c)) := by
  unfold sQ46 GQ46 tameB
  simp only [law_absF, ldexp_S hN, ldexp_G hN]
  cases feq a (some 0) <;> cases feq b (some 0) <;> cases feq c (some 0) <;> cases fge (absF a) cS <;> cases fle (absF a) cG <;> cases fge (absF b) cS <;> cases fle (absF b) cG <;> cases fge (absF c) cS <;> cases fle (absF c) cG <;> rfl
def tw (w y z p C0 C1 C2 : Fl) : Fl := fadd (fadd p (fmul w (fmul C0 (some 4611686018427387904)))) (fsub (fmul y (fmul C2 (some 4611686018427387904))) (fmul z (fmul C1 (some 4611686018427387904))))
def cx (b c s t : Fl) : Fl := fsub (fmul b s) (fmul c t)
def t0 (w x y z p q r : Fl) : Fl := tw w y z p (cx y z r q) (cx z x p r) (cx x y q p)
def t1 (w x y z p q r : Fl) : Fl := tw w z x q (cx z x p r) (cx x y q p) (cx y z r q)
def t2 (w x y z p q r : Fl) : Fl := tw w x y r (cx x y q p) (cx y z r q) (cx z x p r)
theorem lawQ81 {N : Nat} (hN : 1000 <= N) {w x y z p q r : Fl} (h : allFin [w, x, y, z] = true) (g : allFin [p, q, r] = true) (f : allFin [t0 w x y z p q r, t1 w x y z p q r, t2 w x y z p q r] = true) (κ : Fl -> Fl -> Fl -> Int -> Bool) :
    sQ81 N w x y z p q r κ = κ (t0 w x y z p q r) (t1 w x y z p q r) (t2 w x y z p q r) 0 := by
  unfold sQ81 GQ81
  rw [law_good hN, h, show ((!true) == false) = true from rfl, cond_true, lawQ41 _ (small_of hN (Nat.le_of_ble_eq_true rfl)), g, Bool.not_true, cond_false]
  show sQ126 N (t0 w x y z p q r) (t1 w x y z p q r) (t2 w x y z p q r) _ = _
  unfold sQ126 GQ126
  rw [lawQ41 _ (small_of hN (Nat.le_of_ble_eq_true rfl)), f]
  rfl
theorem neg_one' {N : Nat} (hN : 1000 <= N) (k : Bool -> List Int -> Bool) : sQ21 N (-44) false [1] k = k true [1] := by
  obtain ⟨M, rfl⟩ : ∃ M, N = M + 1000 := ⟨N - 1000, by omega⟩
  kernel_rfl
theorem add_lo {N : Nat} (hN : 1000 <= N) (k0 k1 : Bool) (k2 : Int -> Bool -> List Int -> Bool) : sQ3 N 0 (-44) false [1] true [1] k0 k1 k2 = k2 (-44) false [4294967295, 4095] := by
  obtain ⟨M, rfl⟩ : ∃ M, N = M + 1000 := ⟨N - 1000, by omega⟩
  kernel_rfl
theorem add_hi {N : Nat} (hN : 1000 <= N) (k0 k1 : Bool) (k2 : Int -> Bool -> List Int -> Bool) : sQ3 N 0 (-44) false [1] false [1] k0 k1 k2 = k2 (-44) false [1, 4096] := by
  obtain ⟨M, rfl⟩ : ∃ M, N = M + 1000 := ⟨N - 1000, by omega⟩
  kernel_rfl
theorem digs_lo : digs 17592186044415 = [4294967295, 4095] := by
  rw [digs_pos (by decide), digs_pos (by decide), show (17592186044415 / 4294967296 / 4294967296 : Nat) = 0 from rfl, digs_zero]; rfl
theorem digs_hi : digs 17592186044417 = [1, 4096] := by
  rw [digs_pos (by decide), digs_pos (by decide), show (17592186044417 / 4294967296 / 4294967296 : Nat) = 0 from rfl, digs_zero]; rfl

theorem Sc_Sp : Sc = Sp := by rw [Sp_eq]; have := Sc_ge; have := Sc_le; omega
theorem val_rv {x : Fl} (hx : finF x = true) : ((valE x : Int) : Rat) * Ue Sc = rv x := by
  obtain ⟨b, s, m, i, rfl, h⟩ := finF_num hx
  rw [valE_num h, rv_num h, Sc_Sp, Sp_eq]; rfl
theorem dot_rv {a b : List Fl} : ∀ n, FinL a n -> FinL b n -> ((dotVal a b (n + 1) : Int) : Rat) * Ue (Sc + Sc) = ((dotVal a b n : Int) : Rat) * Ue (Sc + Sc) + ((valE (a.getD n none) : Int) : Rat) * Ue Sc * (((valE (b.getD n none) : Int) : Rat) * Ue Sc) := by
  intro n ha hb
  show ((dotVal a b n + valE (a.getD n none) * valE (b.getD n none) : Int) : Rat) * _ = _
  rw [Rat.intCast_add, Rat.intCast_mul, Ue_add]
  generalize ((dotVal a b n : Int) : Rat) = d
  generalize ((valE (a.getD n none) : Int) : Rat) = p
  generalize ((valE (b.getD n none) : Int) : Rat) = q
  generalize Ue Sc = u
  grind
theorem dot0_rv (a b : List Fl) : ((dotVal a b 0 : Int) : Rat) * Ue (Sc + Sc) = 0 := by
  show ((0 : Int) : Rat) * _ = 0
  exact Rat.zero_mul _
theorem dot4_rv {a b c d : Fl} (h : FinL [a, b, c, d] 4) : ((dotVal [a, b, c, d] [a, b, c, d] 4 : Int) : Rat) * Ue (Sc + Sc) = rv a * rv a + rv b * rv b + rv c * rv c + rv d * rv d := by
  have f0 := val_rv (h 0 (by decide)).1
  have f1 := val_rv (h 1 (by decide)).1
  have f2 := val_rv (h 2 (by decide)).1
  have f3 := val_rv (h 3 (by decide)).1
  rw [dot_rv 3 (h.mono (by decide)) (h.mono (by decide)), dot_rv 2 (h.mono (by decide)) (h.mono (by decide)), dot_rv 1 (h.mono (by decide)) (h.mono (by decide)), dot_rv 0 (h.mono (by decide)) (h.mono (by decide)), dot0_rv, f0, f1, f2, f3, Rat.zero_add]
  rfl
theorem dot3_rv {a b c : Fl} (h : FinL [a, b, c] 3) : ((dotVal [a, b, c] [a, b, c] 3 : Int) : Rat) * Ue (Sc + Sc) = rv a * rv a + rv b * rv b + rv c * rv c := by
  have f0 := val_rv (h 0 (by decide)).1
  have f1 := val_rv (h 1 (by decide)).1
  have f2 := val_rv (h 2 (by decide)).1
  rw [dot_rv 2 (h.mono (by decide)) (h.mono (by decide)), dot_rv 1 (h.mono (by decide)) (h.mono (by decide)), dot_rv 0 (h.mono (by decide)) (h.mono (by decide)), dot0_rv, f0, f1, f2, Rat.zero_add]
  rfl
theorem finL3 {a b c : Fl} (h : allFin [a, b, c] = true) (ha : FW a) (hb : FW b) (hc : FW c) : FinL [a, b, c] 3 := by
  have h := allN_iff.1 h
  intro i hi
  exact ⟨h i hi, FW3 ha hb hc i hi⟩
theorem pE_rv {e : Int} {n : Nat} (he : e = -(n : Int)) (hn : n <= 1000) : ((pE e : Int) : Rat) * Ue (Sc + Sc) = Ue n := by
  unfold pE
  have h1 := Sc_ge
  have h2 : (e + ((Sc + Sc : Nat) : Int)).toNat = Sc + Sc - n := by omega
  rw [h2, Int.one_mul, Rat.intCast_pow]
  obtain ⟨m, hm⟩ : ∃ m, Sc + Sc = m + n := ⟨Sc + Sc - n, by omega⟩
  rw [hm, Nat.add_sub_cancel, Ue_add, <- Rat.mul_assoc]
  have h3 : ((2 : Int) : Rat) ^ m * Ue m = 1 := Ue_mul m
  rw [h3, Rat.one_mul]
theorem good_rv {a b c d : Fl} (h : FinL [a, b, c, d] 4) (g : sgnI (offE a b c d) <= 0) : Bd (rv a * rv a + rv b * rv b + rv c * rv c + rv d * rv d - 1) (1 / 281474976710656) := by
  have h0 : offE a b c d <= 0 := by
    unfold sgnI at g
    by_cases hz : offE a b c d = 0
    · omega
    · rw [if_neg hz] at g
      by_cases hl : offE a b c d < 0
      · omega
      · rw [if_neg hl] at g; omega
  unfold offE at h0
  have u0 := Ue_pos (Sc + Sc)
  have e1 := dot4_rv h
  have e2 : ((pE 0 : Int) : Rat) * Ue (Sc + Sc) = Ue 0 := pE_rv rfl (by decide)
  have e3 : ((pE (-48) : Int) : Rat) * Ue (Sc + Sc) = Ue 48 := pE_rv rfl (by decide)
  have e4 := Ue_mul 0
  have e5 := Ue_mul 48
  have e6 : (2 : Rat) ^ 48 = 281474976710656 := by decide +kernel
  have e7 : (2 : Rat) ^ 0 = 1 := by decide +kernel
  rw [e6] at e5
  rw [e7] at e4
  generalize dotVal [a, b, c, d] [a, b, c, d] 4 = D at *
  generalize pE 0 = P at *
  generalize pE (-48) = Q at *
  have k1 : D - P <= Q := by omega
  have k2 : -(D - P) <= Q := by omega
  have c1 := Rat.intCast_le_intCast.2 k1
  have c2 := Rat.intCast_le_intCast.2 k2
  rw [Rat.intCast_sub] at c1
  rw [Rat.intCast_neg, Rat.intCast_sub] at c2
  have m1 := Rat.mul_nonneg ((Rat.le_iff_sub_nonneg _ _).1 c1) (Rat.le_of_lt u0)
  have m2 := Rat.mul_nonneg ((Rat.le_iff_sub_nonneg _ _).1 c2) (Rat.le_of_lt u0)
  rw [<- e1]
  generalize ((D : Int) : Rat) = x at *
  generalize ((P : Int) : Rat) = y at *
  generalize ((Q : Int) : Rat) = w at *
  generalize Ue (Sc + Sc) = u at *
  have n1 : 0 <= w * u - (x * u - y * u) := by grind
  have n2 : 0 <= w * u - (y * u - x * u) := by grind
  rw [e2, e3] at n1 n2
  constructor <;> grind
theorem cmp_lo {s t : Int} (h : ((s : Int) : Rat) * Ue (Sc + Sc) * (17592186044415 / 17592186044416) * (17592186044415 / 17592186044416) <= ((t : Int) : Rat) * Ue (Sc + Sc)) : s * 17592186044415 * 17592186044415 <= t * 309485009821345068724781056 := by
  have u0 := Ue_pos (Sc + Sc)
  rw [<- Rat.intCast_le_intCast, Rat.intCast_mul, Rat.intCast_mul, Rat.intCast_mul]
  generalize ((s : Int) : Rat) = x at *
  generalize ((t : Int) : Rat) = y at *
  generalize Ue (Sc + Sc) = u at *
  have key : ∀ z : Rat, 0 <= z * u -> 0 <= z := by
    intro z hz
    rcases (Rat.le_total : z <= 0 \/ 0 <= z) with h | h
    · by_cases h0 : z = 0
      · rw [h0]; exact Rat.le_refl
      · have := Rat.mul_pos (by grind : 0 < -z) u0
        grind
    · exact h
  have := key (y * 309485009821345068724781056 - x * 17592186044415 * 17592186044415) (by grind)
  show x * 17592186044415 * 17592186044415 <= y * 309485009821345068724781056
  grind
theorem cmp_hi {s t : Int} (h : ((t : Int) : Rat) * Ue (Sc + Sc) <= ((s : Int) : Rat) * Ue (Sc + Sc) * (17592186044417 / 17592186044416) * (17592186044417 / 17592186044416)) : t * 309485009821345068724781056 <= s * 17592186044417 * 17592186044417 := by
  have u0 := Ue_pos (Sc + Sc)
  rw [<- Rat.intCast_le_intCast, Rat.intCast_mul, Rat.intCast_mul, Rat.intCast_mul]
  generalize ((s : Int) : Rat) = x at *
  generalize ((t : Int) : Rat) = y at *
  generalize Ue (Sc + Sc) = u at *
  have key : ∀ z : Rat, 0 <= z * u -> 0 <= z := by
    intro z hz
    rcases (Rat.le_total : z <= 0 \/ 0 <= z) with h | h
    · by_cases h0 : z = 0
      · rw [h0]; exact Rat.le_refl
      · have := Rat.mul_pos (by grind : 0 < -z) u0
        grind
    · exact h
  have := key (x * 17592186044417 * 17592186044417 - y * 309485009821345068724781056) (by grind)
  show y * 309485009821345068724781056 <= x * 17592186044417 * 17592186044417
  grind
end Go.Proofs.YtnfgnjciliapaaaGreatDoor
end
section
namespace Go.Proofs.YtnfgnjciliapaaaGreatDoor
open Go Go.Mach Ieee
set_option linter.unusedVariables false

theorem add3 {a b c : Rat} (h1 : 0 <= a) (h2 : 0 <= b) (h3 : 0 <= c) : 0 <= a + b + c := by grind
theorem mul_le_alg {N S D δ C w2 : Rat} (hC : C = N * S - D) (hD : 0 <= D) (hS : 0 <= S) (hN : w2 + N - 1 <= δ) (hw : 0 <= w2) : C <= S + δ * S := by
  have := Rat.mul_nonneg (by grind : 0 <= 1 + δ - N) hS
  grind
theorem turn_len {w x y z p q r : Fl} (hw : finF w = true) (hx : finF x = true) (hy : finF y = true) (hz : finF z = true) (hp : finF p = true) (hq : finF q = true) (hr : finF r = true)
    (hg : Bd (rv w * rv w + rv x * rv x + rv y * rv y + rv z * rv z - 1) (1 / 281474976710656)) (tp : Tm (rv p)) (tq : Tm (rv q)) (tr : Tm (rv r)) :
    (finF (t0 w x y z p q r) = true /\ finF (t1 w x y z p q r) = true /\ finF (t2 w x y z p q r) = true) /\
    Bd (rv (t0 w x y z p q r) * rv (t0 w x y z p q r) + rv (t1 w x y z p q r) * rv (t1 w x y z p q r) + rv (t2 w x y z p q r) * rv (t2 w x y z p q r) - (rv p * rv p + rv q * rv q + rv r * rv r)) (400 * uu * (rv p * rv p + rv q * rv q + rv r * rv r)) := by
  obtain ⟨M, m0, m1, m2, m3, m4, m5⟩ := three_max (rv p) (rv q) (rv r)
  have hR := Tm.room tp tq tr m0 m5
  have sw := sq_nonneg (rv w)
  have sx := sq_nonneg (rv x)
  have sy := sq_nonneg (rv y)
  have sz := sq_nonneg (rv z)
  have sp := sq_nonneg (rv p)
  have sq := sq_nonneg (rv q)
  have sr := sq_nonneg (rv r)
  have bw := unit_bd (a := rv w) (R := rv x * rv x + rv y * rv y + rv z * rv z) (by grind) rfl (by
    have e : rv w * rv w + (rv x * rv x + rv y * rv y + rv z * rv z) - 1 = rv w * rv w + rv x * rv x + rv y * rv y + rv z * rv z - 1 := by grind
    rw [e]; exact hg)
  have bx := unit_bd (a := rv x) (R := rv w * rv w + rv y * rv y + rv z * rv z) (by grind) rfl (by
    have e : rv x * rv x + (rv w * rv w + rv y * rv y + rv z * rv z) - 1 = rv w * rv w + rv x * rv x + rv y * rv y + rv z * rv z - 1 := by grind
    rw [e]; exact hg)
  have bY := unit_bd (a := rv y) (R := rv w * rv w + rv x * rv x + rv z * rv z) (by grind) rfl (by
    have e : rv y * rv y + (rv w * rv w + rv x * rv x + rv z * rv z) - 1 = rv w * rv w + rv x * rv x + rv y * rv y + rv z * rv z - 1 := by grind
    rw [e]; exact hg)
  have bz := unit_bd (a := rv z) (R := rv w * rv w + rv x * rv x + rv y * rv y) (by grind) rfl (by
    have e : rv z * rv z + (rv w * rv w + rv x * rv x + rv y * rv y) - 1 = rv w * rv w + rv x * rv x + rv y * rv y + rv z * rv z - 1 := by grind
    rw [e]; exact hg)
  obtain ⟨⟨a0, b0⟩, ⟨a1, b1⟩, ⟨a2, b2⟩⟩ := turn_near hR hw bw hx bx hy bY hz bz hp m1 hq m2 hr m3
  have n0 := turn1_near hR hw bw hy bY hz bz hp m1 a0 a1 a2 b0 b1 b2
  have n1 := turn1_near hR hw bw hz bz hx bx hq m2 a1 a2 a0 b1 b2 b0
  have n2 := turn1_near hR hw bw hx bx hy bY hr m3 a2 a0 a1 b2 b0 b1
  refine ⟨⟨n0.1, n1.1, n2.1⟩, ?_⟩
  have ex := turn_exact (rv w) (rv x) (rv y) (rv z) (rv p) (rv q) (rv r) _ _ _ rfl rfl rfl
  have hC := mul_le_alg (δ := 1 / 281474976710656) (w2 := rv w * rv w) (cross_le (rv x) (rv y) (rv z) (rv p) (rv q) (rv r)) (sq_nonneg _) (by grind) (by have := hg.2; grind) sw
  have hC0 : 0 <= (rv y * rv r - rv z * rv q) * (rv y * rv r - rv z * rv q) + (rv z * rv p - rv x * rv r) * (rv z * rv p - rv x * rv r) + (rv x * rv q - rv y * rv p) * (rv x * rv q - rv y * rv p) := by
    have z1 := sq_nonneg (rv y * rv r - rv z * rv q)
    have z2 := sq_nonneg (rv z * rv p - rv x * rv r)
    have z3 := sq_nonneg (rv x * rv q - rv y * rv p)
    generalize (rv y * rv r - rv z * rv q) * (rv y * rv r - rv z * rv q) = c0 at *
    generalize (rv z * rv p - rv x * rv r) * (rv z * rv p - rv x * rv r) = c1 at *
    generalize (rv x * rv q - rv y * rv p) * (rv x * rv q - rv y * rv p) = c2 at *
    exact add3 z1 z2 z3
  exact len_near m4 m0 ex hC0 hC hg n0.2 n1.2 n2.2

theorem allFin3' {a b c : Fl} (h0 : finF a = true) (h1 : finF b = true) (h2 : finF c = true) : allFin [a, b, c] = true := by
  refine allN_iff.2 fun i hi => ?_
  have hi : i < 3 := hi
  match i, hi with
  | 0, _ => exact h0
  | 1, _ => exact h1
  | 2, _ => exact h2
theorem sgn_le {z : Int} (h : z <= 0) : decide (sgnI z <= 0) = true := by
  apply decide_eq_true
  unfold sgnI
  split
  · decide
  · rw [if_pos (by omega)]; decide
theorem exLoK : Ex 44 45 ((-44 : Int), (17592186044415 : Int)) /\ EV ((-44 : Int), (17592186044415 : Int)) 17592186044415 44 := by
  refine ⟨⟨by decide, by decide, ?_⟩, ⟨by decide, by decide⟩⟩
  show (17592186044415 : Int).natAbs < 2 ^ 45; decide
theorem exHiK : Ex 44 45 ((-44 : Int), (17592186044417 : Int)) /\ EV ((-44 : Int), (17592186044417 : Int)) 17592186044417 44 := by
  refine ⟨⟨by decide, by decide, ?_⟩, ⟨by decide, by decide⟩⟩
  show (17592186044417 : Int).natAbs < 2 ^ 45; decide
theorem law_squares {N : Nat} (hN : 1000 <= N) {a b c : Fl} (h : FinL [a, b, c] 3) (k : Int -> Bool -> List Int -> Bool) : sQ19 N a b c k = exK (dotE [a, b, c] [a, b, c] 3) k := by
  unfold sQ19 GQ19
  rw [law_DotE hN rfl (Nat.le_of_ble_eq_true rfl) h h]
  rfl
theorem mulE_lo {N : Nat} (hN : 1000 <= N) {x : Int × Int} (hx : Ex 2300 4300 x) (k : Int -> Bool -> List Int -> Bool) : sQ2 N x.1 (-44) (decide (x.2 < 0)) (digs x.2.natAbs) false [4294967295, 4095] k = exK (exMul x (-44, 17592186044415)) k := by
  have := law_ExMul hN hx (exLoK.1.mono (E' := 2300) (B' := 4300) (by decide) (by decide)) (by decide) (by decide) k
  rw [show decide (((-44 : Int), (17592186044415 : Int)).2 < 0) = false from rfl, show ((-44 : Int), (17592186044415 : Int)).2.natAbs = 17592186044415 from rfl, digs_lo] at this
  exact this
theorem mulE_hi {N : Nat} (hN : 1000 <= N) {x : Int × Int} (hx : Ex 2300 4300 x) (k : Int -> Bool -> List Int -> Bool) : sQ2 N x.1 (-44) (decide (x.2 < 0)) (digs x.2.natAbs) false [1, 4096] k = exK (exMul x (-44, 17592186044417)) k := by
  have := law_ExMul hN hx (exHiK.1.mono (E' := 2300) (B' := 4300) (by decide) (by decide)) (by decide) (by decide) k
  rw [show decide (((-44 : Int), (17592186044417 : Int)).2 < 0) = false from rfl, show ((-44 : Int), (17592186044417 : Int)).2.natAbs = 17592186044417 from rfl, digs_hi] at this
  exact this
theorem pow44 : (2 : Int) ^ 44 = 17592186044416 := by decide
theorem law_QuatLengths {N : Nat} (hN : 1000 <= N) {x0 x1 x2 x3 u0 u1 u2 : Int} (h0 : x0.toNat < 18446744073709551616) (h1 : x1.toNat < 18446744073709551616) (h2 : x2.toNat < 18446744073709551616) (h3 : x3.toNat < 18446744073709551616) (g0 : u0.toNat < 18446744073709551616) (g1 : u1.toNat < 18446744073709551616) (g2 : u2.toNat < 18446744073709551616) (k : Bool -> Bool) : sQ49 N x0 x1 x2 x3 u0 u1 u2 k = k true := by
  have hv : ∀ (x y z w : Int) (k : Fl -> Fl -> Fl -> Fl -> Bool), sQ40 N x y z w k = k (canon x.toNat) (canon y.toNat) (canon z.toNat) (canon w.toNat) := fun _ _ _ _ _ => rfl
  have hu : ∀ (x y z : Int) (k : Fl -> Fl -> Fl -> Bool), sQ43 N x y z k = k (canon x.toNat) (canon y.toNat) (canon z.toNat) := fun _ _ _ _ => rfl
  have w0 := canon_FW h0
  have w1 := canon_FW h1
  have w2 := canon_FW h2
  have w3 := canon_FW h3
  have v0 := canon_FW g0
  have v1 := canon_FW g1
  have v2 := canon_FW g2
  unfold sQ49 GQ49
  rw [law_awake hN, Bool.not_true, cond_false, hv, hu]
  generalize canon x0.toNat = w at *
  generalize canon x1.toNat = x at *
  generalize canon x2.toNat = y at *
  generalize canon x3.toNat = z at *
  generalize canon u0.toNat = p at *
  generalize canon u1.toNat = q at *
  generalize canon u2.toNat = r at *
  have f0 : ((!false) == false) = false := rfl
  have f1 : ((!true) == false) = true := rfl
  cases hfin : allFin [w, x, y, z] with
  | false => rw [law_quat_Good_nf hN hfin, f0, cond_false]
  | true =>
    rw [lawQ72 hN hfin w0 w1 w2 w3]
    by_cases hgood : sgnI (offE w x y z) <= 0
    · rw [decide_eq_true hgood, f1, cond_true, law_tame hN]
      cases htame : (tameB p && (tameB q && tameB r)) with
      | false => rfl
      | true =>
        rw [Bool.and_eq_true, Bool.and_eq_true] at htame
        obtain ⟨ta, tb, tc⟩ := htame
        obtain ⟨fp, tp⟩ := tame_ok v0 ta
        obtain ⟨fq, tq⟩ := tame_ok v1 tb
        obtain ⟨fr, tr⟩ := tame_ok v2 tc
        have hfq := allN_iff.1 hfin
        have fw : finF w = true := hfq 0 (Nat.le_of_ble_eq_true rfl)
        have fx : finF x = true := hfq 1 (Nat.le_of_ble_eq_true rfl)
        have fy : finF y = true := hfq 2 (Nat.le_of_ble_eq_true rfl)
        have fz : finF z = true := hfq 3 (Nat.le_of_ble_eq_true rfl)
        have hpqr : allFin [p, q, r] = true := allFin3' fp fq fr
        have hgr := good_rv (finL4 hfin w0 w1 w2 w3) hgood
        obtain ⟨⟨e0, e1, e2⟩, hlen⟩ := turn_len fw fx fy fz fp fq fr hgr tp tq tr
        rw [Bool.not_true, cond_false, lawQ81 hN hfin hpqr (allFin3' e0 e1 e2), show ((0 : Int) != 0) = false from rfl, cond_false]
        have hLv := finL3 hpqr v0 v1 v2
        have hLt := finL3 (allFin3' e0 e1 e2) (FW_fadd _ _) (FW_fadd _ _) (FW_fadd _ _)
        have hS0 : 0 <= rv p * rv p + rv q * rv q + rv r * rv r := add3 (sq_nonneg _) (sq_nonneg _) (sq_nonneg _)
        obtain ⟨l1, l2⟩ := len_fin hS0 hlen
        rw [<- dot3_rv hLv, <- dot3_rv hLt] at l1 l2
        have i1 := cmp_lo l1
        have i2 := cmp_hi l2
        have xS := dotE_Ex (n := 3) (Nat.le_of_ble_eq_true rfl) hLv hLv
        have xT := dotE_Ex (n := 3) (Nat.le_of_ble_eq_true rfl) hLt hLt
        have vS := dotE_EV 3 hLv hLv
        have vT := ((dotE_EV 3 hLt hLt).up 44).up 44
        have sqv := fun κ => law_squares hN hLv κ
        have sqt := fun κ => law_squares hN hLt κ
        generalize t0 w x y z p q r = T0 at *
        generalize t1 w x y z p q r = T1 at *
        generalize t2 w x y z p q r = T2 at *
        generalize dotE [p, q, r] [p, q, r] 3 = S at *
        generalize dotE [T0, T1, T2] [T0, T1, T2] 3 = T at *
        generalize dotVal [p, q, r] [p, q, r] 3 = sv at *
        generalize dotVal [T0, T1, T2] [T0, T1, T2] 3 = tv at *
        have xSl := xS.mul exLoK.1
        have xSll := xSl.mul exLoK.1
        have xSh := xS.mul exHiK.1
        have xShh := xSh.mul exHiK.1
        have vSll := (vS.mul exLoK.2).mul exLoK.2
        have vShh := (vS.mul exHiK.2).mul exHiK.2
        have xT' : Ex 2300 4300 T := xT.mono (by decide) (by decide)
        have c1 : decide (sgnI (exAdd (exMul (exMul S (-44, 17592186044415)) (-44, 17592186044415)) (exNeg T)).2 <= 0) = true := by
          rw [(vSll.add vT.neg).sgn]
          refine sgn_le ?_
          rw [pow44]; omega
        have c2 : decide (sgnI (exAdd T (exNeg (exMul (exMul S (-44, 17592186044417)) (-44, 17592186044417)))).2 <= 0) = true := by
          rw [(vT.add vShh.neg).sgn]
          refine sgn_le ?_
          rw [pow44]; omega
        unfold sQ100 GQ100 sQ99 GQ99
        simp only [new_one hN, neg_one' hN, add_lo hN, add_hi hN, sqv, sqt]
        unfold exK
        dsimp only
        rw [mulE_lo hN (xS.mono (by decide) (by decide))]
        unfold exK
        dsimp only
        rw [mulE_lo hN (xSl.mono (by decide) (by decide))]
        unfold exK
        dsimp only
        rw [law_ExCmp hN (xSll.mono (E' := 2300) (B' := 4300) (by decide) (by decide)) xT' (by decide), c1, show (true == true) = true from rfl, cond_true, mulE_hi hN (xS.mono (by decide) (by decide))]
        unfold exK
        dsimp only
        rw [mulE_hi hN (xSh.mono (by decide) (by decide))]
        unfold exK
        dsimp only
        rw [law_ExCmp hN xT' (xShh.mono (E' := 2300) (B' := 4300) (by decide) (by decide)) (by decide), c2]
    · rw [decide_eq_false hgood, f0, cond_false]
end Go.Proofs.YtnfgnjciliapaaaGreatDoor
end
