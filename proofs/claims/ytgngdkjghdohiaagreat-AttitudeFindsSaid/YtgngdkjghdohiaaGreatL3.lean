/-
  PURE: laws of the seat's functions, taken over from another seat of mine.
  Conditions: none.
-/
import Derived.Test.YtgngdkjghdohiaaGreatL2
import Derived.Test.YtgngdkjghdohiaaGreatFlG
namespace Go.Proofs.YtgngdkjghdohiaaGreat
open Go Go.Mach Ieee
set_option linter.unusedVariables false

set_option linter.unusedVariables false

set_option linter.unusedVariables false

theorem ldexp_S {N : Nat} (hN : 1000 <= N) (κ : Fl -> Bool) : sZ19 N (some 4607182418800017408) (-400) κ = κ cS := by
  obtain ⟨M, rfl⟩ : ∃ M, N = M + 1000 := ⟨N - 1000, by omega⟩
  kernel_rfl
theorem law_absF (N : Nat) (x : Fl) (κ : Fl -> Bool) : s_m_Abs N x κ = κ (absF x) := rfl
def tw (w y z p C0 C1 C2 : Fl) : Fl := fadd (fadd p (fmul w (fmul C0 (some 4611686018427387904)))) (fsub (fmul y (fmul C2 (some 4611686018427387904))) (fmul z (fmul C1 (some 4611686018427387904))))
def cx (b c s t : Fl) : Fl := fsub (fmul b s) (fmul c t)
def t0 (w x y z p q r : Fl) : Fl := tw w y z p (cx y z r q) (cx z x p r) (cx x y q p)
def t1 (w x y z p q r : Fl) : Fl := tw w z x q (cx z x p r) (cx x y q p) (cx y z r q)
def t2 (w x y z p q r : Fl) : Fl := tw w x y r (cx x y q p) (cx y z r q) (cx z x p r)
theorem lawZ38 {N : Nat} (hN : 1000 <= N) {w x y z p q r : Fl} (h : allFin [w, x, y, z] = true) (g : allFin [p, q, r] = true) (f : allFin [t0 w x y z p q r, t1 w x y z p q r, t2 w x y z p q r] = true) (κ : Fl -> Fl -> Fl -> Int -> Bool) :
    sZ38 N w x y z p q r κ = κ (t0 w x y z p q r) (t1 w x y z p q r) (t2 w x y z p q r) 0 := by
  unfold sZ38 GZ38
  rw [law_good hN, h, show ((!true) == false) = true from rfl, cond_true, lawZ8 _ (small_of hN (Nat.le_of_ble_eq_true rfl)), g, Bool.not_true, cond_false]
  show sZ81 N (t0 w x y z p q r) (t1 w x y z p q r) (t2 w x y z p q r) _ = _
  unfold sZ81 GZ81
  rw [lawZ8 _ (small_of hN (Nat.le_of_ble_eq_true rfl)), f]
  rfl
theorem Sc_Sp : Sc = Sp := by rw [Sp_eq]; have := Sc_ge; have := Sc_le; omega
theorem val_rv {x : Fl} (hx : finF x = true) : ((valE x : Int) : Rat) * Ue Sc = rv x := by
  obtain ⟨b, s, m, i, rfl, h⟩ := finF_num hx
  rw [valE_num h, rv_num h, Sc_Sp, Sp_eq]; rfl
theorem dot_rv {a b : List Fl} : ∀ n, FinL a n -> FinL b n -> ((dotVal a b (n + 1) : Int) : Rat) * Ue (Sc + Sc) = ((dotVal a b n : Int) : Rat) * Ue (Sc + Sc) + ((valE (a.getD n none) : Int) : Rat) * Ue Sc * (((valE (b.getD n none) : Int) : Rat) * Ue Sc) := by
  intro n ha hb
  show ((dotVal a b n + valE (a.getD n none) * valE (b.getD n none) : Int) : Rat) * _ = _
  rw [Rat.intCast_add, Rat.intCast_mul, Ue_add]
  generalize ((dotVal a b n : Int) : Rat) = d
  generalize ((valE (a.getD n none) : Int) : Rat) = p
  generalize ((valE (b.getD n none) : Int) : Rat) = q
  generalize Ue Sc = u
  grind
theorem dot0_rv (a b : List Fl) : ((dotVal a b 0 : Int) : Rat) * Ue (Sc + Sc) = 0 := by
  show ((0 : Int) : Rat) * _ = 0
  exact Rat.zero_mul _
theorem dot4_rv {a b c d : Fl} (h : FinL [a, b, c, d] 4) : ((dotVal [a, b, c, d] [a, b, c, d] 4 : Int) : Rat) * Ue (Sc + Sc) = rv a * rv a + rv b * rv b + rv c * rv c + rv d * rv d := by
  have f0 := val_rv (h 0 (by decide)).1
  have f1 := val_rv (h 1 (by decide)).1
  have f2 := val_rv (h 2 (by decide)).1
  have f3 := val_rv (h 3 (by decide)).1
  rw [dot_rv 3 (h.mono (by decide)) (h.mono (by decide)), dot_rv 2 (h.mono (by decide)) (h.mono (by decide)), dot_rv 1 (h.mono (by decide)) (h.mono (by decide)), dot_rv 0 (h.mono (by decide)) (h.mono (by decide)), dot0_rv, f0, f1, f2, f3, Rat.zero_add]
  rfl
theorem finL3 {a b c : Fl} (h : allFin [a, b, c] = true) (ha : FW a) (hb : FW b) (hc : FW c) : FinL [a, b, c] 3 := by
  have h := allN_iff.1 h
  intro i hi
  exact ⟨h i hi, FW3 ha hb hc i hi⟩
theorem pE_rv {e : Int} {n : Nat} (he : e = -(n : Int)) (hn : n <= 1000) : ((pE e : Int) : Rat) * Ue (Sc + Sc) = Ue n := by
  unfold pE
  have h1 := Sc_ge
  have h2 : (e + ((Sc + Sc : Nat) : Int)).toNat = Sc + Sc - n := by omega
  rw [h2, Int.one_mul, Rat.intCast_pow]
  obtain ⟨m, hm⟩ : ∃ m, Sc + Sc = m + n := ⟨Sc + Sc - n, by omega⟩
  rw [hm, Nat.add_sub_cancel, Ue_add, <- Rat.mul_assoc]
  have h3 : ((2 : Int) : Rat) ^ m * Ue m = 1 := Ue_mul m
  rw [h3, Rat.one_mul]
theorem good_rv {a b c d : Fl} (h : FinL [a, b, c, d] 4) (g : sgnI (offE a b c d) <= 0) : Bd (rv a * rv a + rv b * rv b + rv c * rv c + rv d * rv d - 1) (1 / 281474976710656) := by
  have h0 : offE a b c d <= 0 := by
    unfold sgnI at g
    by_cases hz : offE a b c d = 0
    · omega
    · rw [if_neg hz] at g
      by_cases hl : offE a b c d < 0
      · omega
      · rw [if_neg hl] at g; omega
  unfold offE at h0
  have u0 := Ue_pos (Sc + Sc)
  have e1 := dot4_rv h
  have e2 : ((pE 0 : Int) : Rat) * Ue (Sc + Sc) = Ue 0 := pE_rv rfl (by decide)
  have e3 : ((pE (-48) : Int) : Rat) * Ue (Sc + Sc) = Ue 48 := pE_rv rfl (by decide)
  have e4 := Ue_mul 0
  have e5 := Ue_mul 48
  have e6 : (2 : Rat) ^ 48 = 281474976710656 := by decide +kernel
  have e7 : (2 : Rat) ^ 0 = 1 := by decide +kernel
  rw [e6] at e5
  rw [e7] at e4
  generalize dotVal [a, b, c, d] [a, b, c, d] 4 = D at *
  generalize pE 0 = P at *
  generalize pE (-48) = Q at *
  have k1 : D - P <= Q := by omega
  have k2 : -(D - P) <= Q := by omega
  have c1 := Rat.intCast_le_intCast.2 k1
  have c2 := Rat.intCast_le_intCast.2 k2
  rw [Rat.intCast_sub] at c1
  rw [Rat.intCast_neg, Rat.intCast_sub] at c2
  have m1 := Rat.mul_nonneg ((Rat.le_iff_sub_nonneg _ _).1 c1) (Rat.le_of_lt u0)
  have m2 := Rat.mul_nonneg ((Rat.le_iff_sub_nonneg _ _).1 c2) (Rat.le_of_lt u0)
  rw [<- e1]
  generalize ((D : Int) : Rat) = x at *
  generalize ((P : Int) : Rat) = y at *
  generalize ((Q : Int) : Rat) = w at *
  generalize Ue (Sc + Sc) = u at *
  have n1 : 0 <= w * u - (x * u - y * u) := by grind
  have n2 : 0 <= w * u - (y * u - x * u) := by grind
  rw [e2, e3] at n1 n2
  constructor <;> grind
set_option linter.unusedVariables false

theorem scl_bd {s : Bool} {m : Nat} {i : Int} (hm : m ≠ 0) (h : i + m.log2 <= 0) (hi : -2400 <= i) : finF (some (Ieee.double.nearest s m i)) = true /\ Bd (rv (some (Ieee.double.nearest s m i))) 3 := by
  obtain ⟨E, hE⟩ : ∃ E : Nat, E = 2400 := ⟨_, rfl⟩
  obtain ⟨n1, n2⟩ := near_rat s hm (i := i) (by omega) (E := E) (by omega) (by omega)
  refine ⟨n1, ?_⟩
  have hX : m * 2 ^ (i + E).toNat <= 2 * 2 ^ E := by
    have h1 : m < 2 ^ (m.log2 + 1) := Nat.lt_log2_self
    have h2 := Nat.mul_le_mul_right (2 ^ (i + E).toNat) (Nat.le_of_lt h1)
    rw [<- Nat.pow_add] at h2
    refine Nat.le_trans h2 ?_
    have : 2 * 2 ^ E = 2 ^ (E + 1) := by rw [Nat.pow_succ, Nat.mul_comm]
    rw [this]
    exact Nat.pow_le_pow_right (by decide) (by omega)
  have hR : ((m * 2 ^ (i + E).toNat : Nat) : Rat) * Ue E <= 2 /\ 0 <= ((m * 2 ^ (i + E).toNat : Nat) : Rat) * Ue E := by
    have h1 := Rat.natCast_le_natCast.2 hX
    have h2 : ((2 * 2 ^ E : Nat) : Rat) = 2 * 2 ^ E := by rw [Rat.natCast_mul, Rat.natCast_pow]; rfl
    rw [h2] at h1
    have h3 := Ue_mul E
    have h4 := Ue_pos E
    have h5 : (0 : Rat) <= ((m * 2 ^ (i + E).toNat : Nat) : Rat) := Rat.natCast_nonneg
    generalize ((m * 2 ^ (i + E).toNat : Nat) : Rat) = x at *
    generalize (2 : Rat) ^ E = p at *
    generalize Ue E = u at *
    have h6 := Rat.mul_nonneg (by grind : 0 <= 2 * p - x) (by grind : 0 <= u)
    exact ⟨by grind, Rat.mul_nonneg h5 (by grind)⟩
  rw [signed_cast] at n2
  generalize hXX : ((m * 2 ^ (i + E).toNat : Nat) : Rat) = x at *
  have hb : Bd ((if s = true then -x else x) * Ue E) 2 := by
    generalize hu : Ue E = u at *
    cases s
    · rw [if_neg (by decide)]; exact ⟨by grind, by grind⟩
    · rw [if_pos rfl, Rat.neg_mul]; exact ⟨by grind, by grind⟩
  have h := n2 2 hb
  have he := eta_le
  have he0 := eta_pos
  have hw : (if -1074 <= i then (0 : Rat) else eta) <= eta := by split <;> grind
  generalize (if -1074 <= i then (0 : Rat) else eta) = w at *
  generalize (if s = true then -x else x) * Ue E = z at *
  obtain ⟨a, b⟩ := hb
  obtain ⟨c, d⟩ := h
  exact ⟨by grind, by grind⟩
theorem scl_rat {N : Nat} {xs : List Fl} (hf : FinW xs) (h0 : feq (mostF xs xs.length) (some 0) = false) :
    ∃ fr e, (∀ κ : Fl -> Int -> Bool, sZ74 N (mostF xs xs.length) κ = κ fr e) /\ -1200 <= e /\ e <= 1200 /\
      (∀ i, i < xs.length -> finF (sclF (xs.getD i none) (1 - e)) = true /\ Bd (rv (sclF (xs.getD i none) (1 - e))) 3) /\
      ∃ j, j < xs.length /\ 1 <= rv (sclF (xs.getD j none) (1 - e)) * rv (sclF (xs.getD j none) (1 - e)) := by
  obtain ⟨hm, hmw⟩ := most_fin hf xs.length (Nat.le_refl _)
  obtain ⟨hle, hone⟩ := most_vl hf xs.length (Nat.le_refl _)
  obtain ⟨fr, e, he, he1, he2, he3⟩ := law_frexp N hm hmw h0
  obtain ⟨b, s, m, i, hb, hr⟩ := finF_num hm
  have hei := he3 b s m i hb hr
  have hm0 : m ≠ 0 := by
    rw [hb, feq_zero hr] at h0
    exact of_decide_eq_false h0
  have hgi := place_ge hr
  rcases hone with e0 | ⟨j, hj, ej⟩
  · rw [e0] at h0
    exact absurd h0 (by decide)
  obtain ⟨hjf, hjw⟩ := hf j hj
  obtain ⟨bj, sj, mj, ij, hbj, hrj⟩ := finF_num hjf
  have hsame : mj = m /\ ij = i := by
    obtain ⟨c, hc, hcw, hcr⟩ := absF_num (hjw bj hbj) hrj
    rw [hbj, hc] at ej
    rw [ej] at hb
    cases hb
    rw [hcr] at hr
    cases hr
    exact ⟨rfl, rfl⟩
  obtain ⟨rfl, rfl⟩ := hsame
  have hvm : vl (mostF xs xs.length) = ((mj * 2 ^ (ij + 1074).toNat : Nat) : Int) := by
    rw [ej]; exact vl_abs hjf hjw hbj hrj
  refine ⟨fr, e, he, he1, he2, fun l hl => ?_, j, hj, ?_⟩
  · obtain ⟨hlf, hlw⟩ := hf l hl
    obtain ⟨bl, sl, ml, il, hbl, hrl⟩ := finF_num hlf
    rw [hbl, sclF_num hrl]
    have hgl := place_ge hrl
    by_cases hz : ml = 0
    · rw [hz, nearest_zero]
      obtain ⟨w1, w2⟩ := rv_word0 sl
      refine ⟨w1, ?_⟩
      rw [w2]; unfold Bd; grind
    · have hv := hle l hl
      rw [hvm, vl_abs hlf hlw hbl hrl] at hv
      have := log2_vl hz (Int.ofNat_le.1 hv) hgi hgl
      exact scl_bd hz (by omega) (by omega)
  · rw [hbj, sclF_num hrj]
    have hpm := place_le hrj
    obtain ⟨h1, h2⟩ := lift52 hm0 hpm.2
    have e2 : Ieee.double.nearest sj mj (ij + (1 - e)) = Ieee.double.nearest sj (mj <<< (52 - mj.log2)) (-52) := by
      rw [<- nearest_lift sj mj (ij + (1 - e))]
      congr 1
      have : mj.log2 <= 52 := by
        have := (Nat.log2_lt hm0).2 (by simpa using hpm.2 : mj < 2 ^ 53)
        omega
      omega
    have e3 : Ieee.double.nearest sj (mj <<< (52 - mj.log2)) (-52) = Ieee.double.word sj (((-52 : Int) + 1075).toNat * 4503599627370496 + (mj <<< (52 - mj.log2) - 4503599627370496)) :=
      write_read (word_W64 sj (by omega)) (read_normal sj _ _ ⟨h1, h2⟩ (by omega))
    rw [e2, e3, rv_num (read_normal sj _ _ ⟨h1, h2⟩ (by omega)), signed_cast]
    generalize mj <<< (52 - mj.log2) = M at *
    generalize hA : ((-52 : Int) + 1074).toNat = a
    have hS : Sp = a + 52 := by rw [Sp_eq, <- hA]; decide
    have hval : ((M * 2 ^ a : Nat) : Rat) * Ue Sp = (M : Rat) * Ue 52 := by
      rw [hS, Rat.natCast_mul, Rat.natCast_pow, Ue_add]
      have h3 : ((2 : Nat) : Rat) ^ a * Ue a = 1 := Ue_mul a
      rw [Rat.mul_assoc, <- Rat.mul_assoc _ (Ue a), h3, Rat.one_mul]
    have hM : 1 <= (M : Rat) * Ue 52 := by
      have h4 := Ue_mul 52
      have h5 : (2 : Rat) ^ 52 = 4503599627370496 := by decide +kernel
      rw [h5] at h4
      have h6 := Rat.natCast_le_natCast.2 h1
      have h7 : ((4503599627370496 : Nat) : Rat) = 4503599627370496 := rfl
      rw [h7] at h6
      have h8 := Ue_pos 52
      generalize (M : Rat) = x at *
      generalize Ue 52 = u at *
      have := Rat.mul_nonneg (by grind : 0 <= x - 4503599627370496) (by grind : 0 <= u)
      grind
    have hsq : ((if sj = true then -((M * 2 ^ a : Nat) : Rat) else ((M * 2 ^ a : Nat) : Rat)) * Ue Sp) * ((if sj = true then -((M * 2 ^ a : Nat) : Rat) else ((M * 2 ^ a : Nat) : Rat)) * Ue Sp) = ((M : Rat) * Ue 52) * ((M : Rat) * Ue 52) := by
      rw [<- hval]
      generalize ((M * 2 ^ a : Nat) : Rat) = x
      generalize Ue Sp = u
      cases sj
      · rfl
      · rw [if_pos rfl]; grind
    rw [hsq]
    generalize (M : Rat) * Ue 52 = x at *
    have := Rat.mul_nonneg (by grind : 0 <= x - 1) (by grind : 0 <= x - 1)
    grind

set_option linter.unusedVariables false

def U4 (x y z w : Fl) : Prop := allFin [x, y, z, w] = true /\ Bd (rv x * rv x + rv y * rv y + rv z * rv z + rv w * rv w - 1) (1 / 562949953421312)
def Res (f : K4 -> Bool) : Prop := ∃ x y z w n, (FW x /\ FW y /\ FW z /\ FW w) /\ (n = 0 -> U4 x y z w) /\ ∀ κ, f κ = κ x y z w n
theorem allFin4' {a b c d : Fl} (h0 : finF a = true) (h1 : finF b = true) (h2 : finF c = true) (h3 : finF d = true) : allFin [a, b, c, d] = true := by
  refine allN_iff.2 fun i hi => ?_
  have hi : i < 4 := hi
  match i, hi with
  | 0, _ => exact h0
  | 1, _ => exact h1
  | 2, _ => exact h2
  | 3, _ => exact h3
theorem most_zero {xs : List Fl} (hf : FinW xs) (h0 : feq (mostF xs xs.length) (some 0) = true) {i : Nat} (hi : i < xs.length) : rv (xs.getD i none) = 0 := by
  obtain ⟨hm, hmw⟩ := most_fin hf xs.length (Nat.le_refl _)
  obtain ⟨hle, -⟩ := most_vl hf xs.length (Nat.le_refl _)
  have h1 := (feq_rv hm rv_zero.1).1 h0
  have h2 := rv_eq.2 h1
  have h3 : vl (some 0) = 0 := by
    have := read_zero
    rw [vl_num this, signed_zero]
  obtain ⟨hf1, hw1⟩ := hf i hi
  obtain ⟨b, s, m, j, hb, hr⟩ := finF_num hf1
  have h4 := hle i hi
  rw [h2, h3, vl_abs hf1 hw1 hb hr] at h4
  have h5 : m * 2 ^ (j + 1074).toNat = 0 := by omega
  have h6 : m = 0 := by
    rcases Nat.mul_eq_zero.1 h5 with h | h
    · exact h
    · exact absurd h (Nat.pos_iff_ne_zero.1 (Nat.two_pow_pos _))
  rw [hb, rv_num hr, h6, signed_zero]
  exact Rat.zero_mul _
theorem one4 {a b c d : Rat} (h0 : 0 <= a) (h1 : 0 <= b) (h2 : 0 <= c) (h3 : 0 <= d) (h : 1 <= a \/ 1 <= b \/ 1 <= c \/ 1 <= d) : 1 <= a + b + c + d := by
  rcases h with h | h | h | h <;> grind
set_option linter.unusedVariables false
set_option maxRecDepth 4000

theorem law_good2 {N : Nat} (hN : 1000 <= N) (a b c d p q r s : Fl) (k : Bool -> Bool) : sZ31 N a b c d p q r s k = k (allFin [a, b, c, d] && allFin [p, q, r, s]) := by
  unfold sZ31 GZ31
  rw [lawZ8 _ (small_of hN (Nat.le_of_ble_eq_true rfl))]
  cases allFin [a, b, c, d]
  · rfl
  · rw [Bool.not_true, cond_false, lawZ8 _ (small_of hN (Nat.le_of_ble_eq_true rfl))]
    cases allFin [p, q, r, s] <;> rfl
theorem fin4 {a b c d : Fl} (h : allFin [a, b, c, d] = true) : finF a = true /\ finF b = true /\ finF c = true /\ finF d = true := by
  have h := allN_iff.1 h
  exact ⟨h 0 (Nat.le_of_ble_eq_true rfl), h 1 (Nat.le_of_ble_eq_true rfl), h 2 (Nat.le_of_ble_eq_true rfl), h 3 (Nat.le_of_ble_eq_true rfl)⟩
def mulK (a b c d p q r s : Fl) (κ : K4) : Bool := κ (fsub (fsub (fsub (fmul a p) (fmul b q)) (fmul c r)) (fmul d s)) (fsub (fadd (fadd (fmul a q) (fmul b p)) (fmul c s)) (fmul d r)) (fadd (fadd (fsub (fmul a r) (fmul b s)) (fmul c p)) (fmul d q)) (fadd (fsub (fadd (fmul a s) (fmul b r)) (fmul c q)) (fmul d p)) 0
set_option linter.unusedVariables false
set_option maxRecDepth 4000

theorem nine {xs : List Fl} (h : xs.length = 9) : ∃ a0 a1 a2 a3 a4 a5 a6 a7 a8, xs = [a0, a1, a2, a3, a4, a5, a6, a7, a8] := by
  match xs, h with
  | [a0, a1, a2, a3, a4, a5, a6, a7, a8], _ => exact ⟨a0, a1, a2, a3, a4, a5, a6, a7, a8, rfl⟩
def matE (a b c d : Fl) : List Fl := [(fsub (some 4607182418800017408) (fmul (some 4611686018427387904) (fadd (fmul c c) (fmul d d)))), (fmul (some 4611686018427387904) (fsub (fmul b c) (fmul a d))), (fmul (some 4611686018427387904) (fadd (fmul b d) (fmul a c))), (fmul (some 4611686018427387904) (fadd (fmul b c) (fmul a d))), (fsub (some 4607182418800017408) (fmul (some 4611686018427387904) (fadd (fmul b b) (fmul d d)))), (fmul (some 4611686018427387904) (fsub (fmul c d) (fmul a b))), (fmul (some 4611686018427387904) (fsub (fmul b d) (fmul a c))), (fmul (some 4611686018427387904) (fadd (fmul c d) (fmul a b))), (fsub (some 4607182418800017408) (fmul (some 4611686018427387904) (fadd (fmul b b) (fmul c c))))]
set_option linter.unusedVariables false
set_option maxRecDepth 4000

theorem fin3 {a b c : Fl} (h : allFin [a, b, c] = true) : finF a = true /\ finF b = true /\ finF c = true := by
  have h := allN_iff.1 h
  exact ⟨h 0 (Nat.le_of_ble_eq_true rfl), h 1 (Nat.le_of_ble_eq_true rfl), h 2 (Nat.le_of_ble_eq_true rfl)⟩
def crs (a b c p q r : Fl) (k : Fl -> Fl -> Fl -> Bool) : Bool := k (fsub (fmul b r) (fmul c q)) (fsub (fmul c p) (fmul a r)) (fsub (fmul a q) (fmul b p))
set_option linter.unusedVariables false

theorem Res_congr {f g : K4 -> Bool} (h : ∀ κ, f κ = g κ) (hg : Res g) : Res f := by
  obtain ⟨x, y, z, w, n, h1, h2, h3⟩ := hg
  exact ⟨x, y, z, w, n, h1, h2, fun κ => by rw [h, h3]⟩
theorem ldexp_NN (N : Nat) {g : Fl} (hg : NN g) {e : Int} (h1 : -5000 <= e) (h2 : e <= 5000) (κ : Fl -> Bool) : sZ19 N g e κ = κ (sclF g e) := by
  obtain ⟨b, rfl, hw, h | h⟩ := hg
  · obtain ⟨m, i, h⟩ := h
    have hf := finF_of h
    have hF : FW (some b) := fun c hc => by cases hc; exact hw
    exact law_Ldexp N hf hF h1 h2 κ
  · have hb := inf_word hw h
    have e : sclF (some b) e = some b := by unfold sclF; simp only [h]
    rw [e, hb]
    exact law_Ldexp_inf N _ κ
theorem law_MulQ {N : Nat} (hN : 1000 <= N) (a b c d p q r s : Fl) (κ : K4) : sZ110 N a b c d p q r s κ = cond (allFin [a, b, c, d] && allFin [p, q, r, s]) (mulK a b c d p q r s (fun x y z w _ => cond (!allFin [x, y, z, w]) (κ (some 0) (some 0) (some 0) (some 0) 5) (κ x y z w 0))) (κ (some 0) (some 0) (some 0) (some 0) 4) := by
  unfold sZ110 GZ110
  rw [law_good2 hN]
  cases (allFin [a, b, c, d] && allFin [p, q, r, s])
  · rfl
  · rw [Bool.not_true, cond_false, cond_true]
    unfold sZ113 GZ113 mulK
    dsimp only
    rw [law_told hN]
set_option linter.unusedVariables false

theorem int_of_rat {x y : Int} {u : Rat} (hu : 0 < u) (h : ((x : Int) : Rat) * u <= ((y : Int) : Rat) * u) : x <= y := by
  rw [<- Rat.intCast_le_intCast]
  generalize ((x : Int) : Rat) = a at *
  generalize ((y : Int) : Rat) = b at *
  rcases (Rat.le_total : a <= b \/ b <= a) with k | k
  · exact k
  · by_cases e : a = b
    · rw [e]; exact Rat.le_refl
    · have := Rat.mul_pos (by grind : 0 < a - b) hu
      grind
set_option linter.unusedVariables false

theorem pz_great {m : Nat} (hm : m ≠ 0) {i : Int} (hi : -1074 <= i) {k : Int} (hk : i + m.log2 + k = 0) (h1 : -1200 <= k) (h2 : k <= 1200) : 1 <= ((m * 2 ^ (i + 1074).toNat : Nat) : Rat) * Ue Sp * pz k /\ ((m * 2 ^ (i + 1074).toNat : Nat) : Rat) * Ue Sp * pz k <= 2 := by
  have hlg := Nat.log2_self_le hm
  have hlg2 : m < 2 ^ (m.log2 + 1) := Nat.lt_log2_self
  have hK := K2_eq
  have hS := Sp_eq
  have e1 : ((m * 2 ^ (i + 1074).toNat : Nat) : Rat) * Ue Sp * pz k = ((m * 2 ^ ((i + 1074).toNat + (k + (K2 : Int)).toNat) : Nat) : Rat) * Ue (Sp + K2) := by
    unfold pz
    rw [Nat.pow_add, Ue_add, Rat.natCast_mul, Rat.natCast_mul, Rat.natCast_mul, Rat.natCast_pow _ (k + (K2 : Int)).toNat]
    have e2 : ((2 : Nat) : Rat) ^ (k + (K2 : Int)).toNat = (2 : Rat) ^ (k + (K2 : Int)).toNat := rfl
    rw [e2]
    generalize ((2 ^ (i + 1074).toNat : Nat) : Rat) = a
    generalize (2 : Rat) ^ (k + (K2 : Int)).toNat = c
    generalize Ue Sp = u
    generalize Ue K2 = v
    generalize (m : Rat) = n
    grind
  have hle : 2 ^ (Sp + K2) <= m * 2 ^ ((i + 1074).toNat + (k + (K2 : Int)).toNat) := by
    have := Nat.mul_le_mul_right (2 ^ ((i + 1074).toNat + (k + (K2 : Int)).toNat)) hlg
    rw [<- Nat.pow_add] at this
    refine Nat.le_trans (Nat.pow_le_pow_right (by decide) ?_) this
    omega
  have hge : m * 2 ^ ((i + 1074).toNat + (k + (K2 : Int)).toNat) <= 2 * 2 ^ (Sp + K2) := by
    have := Nat.mul_le_mul_right (2 ^ ((i + 1074).toNat + (k + (K2 : Int)).toNat)) (Nat.le_of_lt hlg2)
    rw [<- Nat.pow_add] at this
    refine Nat.le_trans this ?_
    have e3 : 2 * 2 ^ (Sp + K2) = 2 ^ (Sp + K2 + 1) := by rw [Nat.pow_succ, Nat.mul_comm]
    rw [e3]
    refine Nat.pow_le_pow_right (by decide) ?_
    omega
  rw [e1]
  have c1 := Rat.natCast_le_natCast.2 hle
  have c2 := Rat.natCast_le_natCast.2 hge
  have c3 : ((2 * 2 ^ (Sp + K2) : Nat) : Rat) = 2 * 2 ^ (Sp + K2) := by rw [Rat.natCast_mul, Rat.natCast_pow]; rfl
  have c4 : ((2 ^ (Sp + K2) : Nat) : Rat) = 2 ^ (Sp + K2) := by rw [Rat.natCast_pow]; rfl
  rw [c4] at c1
  rw [c3] at c2
  have u1 := Ue_mul (Sp + K2)
  have u2 := Ue_pos (Sp + K2)
  generalize ((m * 2 ^ ((i + 1074).toNat + (k + (K2 : Int)).toNat) : Nat) : Rat) = X at *
  generalize (2 : Rat) ^ (Sp + K2) = P at *
  generalize Ue (Sp + K2) = U at *
  have k1 := Rat.mul_nonneg (by grind : 0 <= X - P) (by grind : 0 <= U)
  have k2 := Rat.mul_nonneg (by grind : 0 <= 2 * P - X) (by grind : 0 <= U)
  constructor <;> grind
theorem vl_of_abs {x : Fl} (hf : finF x = true) (hw : FW x) {V : Int} (h : vl (absF x) <= V) : Bd (rv x) ((V : Rat) * Ue Sp) := by
  obtain ⟨b, s, m, i, rfl, hr⟩ := finF_num hf
  rw [vl_abs hf hw rfl hr] at h
  rw [rv_num hr, signed_cast]
  have h1 := Rat.intCast_le_intCast.2 h
  rw [Rat.intCast_natCast] at h1
  have h2 := Ue_pos Sp
  have h3 : (0 : Rat) <= ((m * 2 ^ (i + 1074).toNat : Nat) : Rat) := Rat.natCast_nonneg
  generalize ((m * 2 ^ (i + 1074).toNat : Nat) : Rat) = X at *
  generalize ((V : Int) : Rat) = W at *
  generalize Ue Sp = U at *
  have k1 := Rat.mul_nonneg (by grind : 0 <= W - X) (by grind : 0 <= U)
  have k2 := Rat.mul_nonneg h3 (by grind : 0 <= U)
  cases s
  · rw [if_neg (by decide)]; exact ⟨by grind, by grind⟩
  · rw [if_pos rfl]; exact ⟨by grind, by grind⟩
theorem scl_great {N : Nat} {xs : List Fl} (hf : FinW xs) (h0 : feq (mostF xs xs.length) (some 0) = false) :
    ∃ fr e, (∀ κ : Fl -> Int -> Bool, sZ74 N (mostF xs xs.length) κ = κ fr e) /\ -1200 <= e /\ e <= 1200 /\
      ∃ G : Rat, 0 < G /\ 1 <= G * pz (1 - e) /\ G * pz (1 - e) <= 2 /\ (∀ i, i < xs.length -> Bd (rv (xs.getD i none)) G) /\ ∃ j, j < xs.length /\ (rv (xs.getD j none) = G \/ rv (xs.getD j none) = -G) := by
  obtain ⟨hm, hmw⟩ := most_fin hf xs.length (Nat.le_refl _)
  obtain ⟨hle, hone⟩ := most_vl hf xs.length (Nat.le_refl _)
  obtain ⟨fr, e, he, he1, he2, he3⟩ := law_frexp N hm hmw h0
  obtain ⟨b, s, m, i, hb, hr⟩ := finF_num hm
  have hei := he3 b s m i hb hr
  have hm0 : m ≠ 0 := by
    rw [hb, feq_zero hr] at h0
    exact of_decide_eq_false h0
  have hgi := place_ge hr
  rcases hone with e0 | ⟨j, hj, ej⟩
  · rw [e0] at h0
    exact absurd h0 (by decide)
  obtain ⟨hjf, hjw⟩ := hf j hj
  obtain ⟨bj, sj, mj, ij, hbj, hrj⟩ := finF_num hjf
  have hsame : mj = m /\ ij = i := by
    obtain ⟨c, hc, hcw, hcr⟩ := absF_num (hjw bj hbj) hrj
    rw [hbj, hc] at ej
    rw [ej] at hb
    cases hb
    rw [hcr] at hr
    cases hr
    exact ⟨rfl, rfl⟩
  obtain ⟨rfl, rfl⟩ := hsame
  have hvm : vl (mostF xs xs.length) = ((mj * 2 ^ (ij + 1074).toNat : Nat) : Int) := by
    rw [ej]; exact vl_abs hjf hjw hbj hrj
  refine ⟨fr, e, he, he1, he2, ((mj * 2 ^ (ij + 1074).toNat : Nat) : Rat) * Ue Sp, ?_, ?_, ?_, fun l hl => ?_, j, hj, ?_⟩
  · exact Rat.mul_pos (Rat.natCast_pos.2 (Nat.mul_pos (Nat.pos_of_ne_zero hm0) (Nat.two_pow_pos _))) (Ue_pos _)
  · exact (pz_great hm0 hgi (k := 1 - e) (by omega) (by omega) (by omega)).1
  · exact (pz_great hm0 hgi (k := 1 - e) (by omega) (by omega) (by omega)).2
  · obtain ⟨hlf, hlw⟩ := hf l hl
    have hv := hle l hl
    rw [hvm] at hv
    have := vl_of_abs hlf hlw hv
    rw [Rat.intCast_natCast] at this
    exact this
  · rw [hbj, rv_num hrj, signed_cast]
    cases sj
    · left; rw [if_neg (by decide)]
    · right; rw [if_pos rfl, Rat.neg_mul]
theorem frexp_same {N : Nat} {x : Fl} {f f' : Fl} {e e' : Int} (h : ∀ κ : Fl -> Int -> Bool, sZ74 N x κ = κ f e) (g : ∀ κ : Fl -> Int -> Bool, sZ74 N x κ = κ f' e') : e = e' := by
  have h1 := h (fun _ n => decide (n = e))
  have h2 := g (fun _ n => decide (n = e))
  rw [h1] at h2
  have : decide (e' = e) = true := h2.symm.trans (decide_eq_true rfl)
  exact (of_decide_eq_true this).symm
theorem unit_more {N : Nat} (hN : 1000 <= N) {a b c d : Fl} (ha : FW a) (hb : FW b) (hc : FW c) (hd : FW d) (hall : allFin [a, b, c, d] = true) (hne : rv a ≠ 0 \/ rv b ≠ 0 \/ rv c ≠ 0 \/ rv d ≠ 0) :
    ∃ (k : Int) (g : Fl) (G : Rat), -2000 <= k /\ (∀ κ, sZ34 N a b c d κ = κ (fdiv (sclF a k) g) (fdiv (sclF b k) g) (fdiv (sclF c k) g) (fdiv (sclF d k) g) 0) /\
      (FW (fdiv (sclF a k) g) /\ FW (fdiv (sclF b k) g) /\ FW (fdiv (sclF c k) g) /\ FW (fdiv (sclF d k) g)) /\ U4 (fdiv (sclF a k) g) (fdiv (sclF b k) g) (fdiv (sclF c k) g) (fdiv (sclF d k) g) /\
      0 < rv g /\ (Bd (rv (fdiv (sclF a k) g) - rv (sclF a k) / rv g) (205 / 100 * uu) /\ Bd (rv (sclF a k) / rv g) kap) /\ (Bd (rv (fdiv (sclF b k) g) - rv (sclF b k) / rv g) (205 / 100 * uu) /\ Bd (rv (sclF b k) / rv g) kap) /\ (Bd (rv (fdiv (sclF c k) g) - rv (sclF c k) / rv g) (205 / 100 * uu) /\ Bd (rv (sclF c k) / rv g) kap) /\ (Bd (rv (fdiv (sclF d k) g) - rv (sclF d k) / rv g) (205 / 100 * uu) /\ Bd (rv (sclF d k) / rv g) kap) /\
      Bd (Nq (rv (sclF a k) / rv g) (rv (sclF b k) / rv g) (rv (sclF c k) / rv g) (rv (sclF d k) / rv g) - 1) (81 / 10 * uu) /\
      0 < G /\ 1 <= G * pz k /\ G * pz k <= 2 /\ Bd (rv a) G /\ Bd (rv b) G /\ Bd (rv c) G /\ Bd (rv d) G /\ (rv a = G \/ rv a = -G \/ rv b = G \/ rv b = -G \/ rv c = G \/ rv c = -G \/ rv d = G \/ rv d = -G) := by
  have hf := finW_of (FW4 ha hb hc hd) hall
  have h0 : feq (mostF [a, b, c, d] 4) (some 0) = false := by
    cases h0 : feq (mostF [a, b, c, d] 4) (some 0) with
    | false => rfl
    | true =>
      exfalso
      rcases hne with h | h | h | h
      · exact h (most_zero hf h0 (i := 0) (Nat.le_of_ble_eq_true rfl))
      · exact h (most_zero hf h0 (i := 1) (Nat.le_of_ble_eq_true rfl))
      · exact h (most_zero hf h0 (i := 2) (Nat.le_of_ble_eq_true rfl))
      · exact h (most_zero hf h0 (i := 3) (Nat.le_of_ble_eq_true rfl))
  obtain ⟨fr, e, he, he1, he2, hfin, j, hj, hge⟩ := scl_rat (N := N) hf h0
  obtain ⟨fr', e', he', -, -, G, G0, G1, G2, G3, j', hj', hge'⟩ := scl_great (N := N) hf h0
  have hee := frexp_same he he'
  subst hee
  have q := unit_q hN hall hf h0 he he1 he2
  obtain ⟨f0, b0⟩ := hfin 0 (Nat.le_of_ble_eq_true rfl)
  obtain ⟨f1, b1⟩ := hfin 1 (Nat.le_of_ble_eq_true rfl)
  obtain ⟨f2, b2⟩ := hfin 2 (Nat.le_of_ble_eq_true rfl)
  obtain ⟨f3, b3⟩ := hfin 3 (Nat.le_of_ble_eq_true rfl)
  have z0 := sq_nonneg (rv (sclF a (1 - e)))
  have z1 := sq_nonneg (rv (sclF b (1 - e)))
  have z2 := sq_nonneg (rv (sclF c (1 - e)))
  have z3 := sq_nonneg (rv (sclF d (1 - e)))
  have h1 : 1 <= rv (sclF a (1 - e)) * rv (sclF a (1 - e)) + rv (sclF b (1 - e)) * rv (sclF b (1 - e)) + rv (sclF c (1 - e)) * rv (sclF c (1 - e)) + rv (sclF d (1 - e)) * rv (sclF d (1 - e)) := by
    match j, hj, hge with
    | 0, _, h => exact one4 z0 z1 z2 z3 (.inl h)
    | 1, _, h => exact one4 z0 z1 z2 z3 (.inr (.inl h))
    | 2, _, h => exact one4 z0 z1 z2 z3 (.inr (.inr (.inl h)))
    | 3, _, h => exact one4 z0 z1 z2 z3 (.inr (.inr (.inr h)))
  obtain ⟨⟨g0, g1, g2, g3⟩, hu⟩ := unit_near f0 f1 f2 f3 b0 b1 b2 b3 h1 rfl
  obtain ⟨s, t0, t1, t2, t3, tN⟩ := unit_near2 f0 f1 f2 f3 b0 b1 b2 b3 h1 rfl
  refine ⟨1 - e, _, G, by omega, q, ⟨FW_fdiv _ _, FW_fdiv _ _, FW_fdiv _ _, FW_fdiv _ _⟩, ⟨allFin4' g0 g1 g2 g3, hu⟩, s, t0, t1, t2, t3, tN, G0, G1, G2, G3 0 (Nat.le_of_ble_eq_true rfl), G3 1 (Nat.le_of_ble_eq_true rfl), G3 2 (Nat.le_of_ble_eq_true rfl), G3 3 (Nat.le_of_ble_eq_true rfl), ?_⟩
  match j', hj', hge' with
  | 0, _, .inl h => exact .inl h
  | 0, _, .inr h => exact .inr (.inl h)
  | 1, _, .inl h => exact .inr (.inr (.inl h))
  | 1, _, .inr h => exact .inr (.inr (.inr (.inl h)))
  | 2, _, .inl h => exact .inr (.inr (.inr (.inr (.inl h))))
  | 2, _, .inr h => exact .inr (.inr (.inr (.inr (.inr (.inl h)))))
  | 3, _, .inl h => exact .inr (.inr (.inr (.inr (.inr (.inr (.inl h))))))
  | 3, _, .inr h => exact .inr (.inr (.inr (.inr (.inr (.inr (.inr h))))))

set_option linter.unusedVariables false

theorem comp_h {W : Fl} {P : Rat} (hW : Ap W P (27 / 2 * uu)) (hP : Bd P kap) {k : Int} (hk : -2000 <= k) (h1 : 99 / 100 <= pz k) (h5 : pz k <= 5) : Bd (rv (sclF W k) / pz k - P) (147 / 10 * uu) := by
  obtain ⟨α, α0, α1, α2⟩ := abs_ex (rv W)
  have hz := pz_pos k
  have hWb := hW.bd hP
  have hα : α <= 1002 / 1000 := by
    rcases (Rat.le_total : α <= 1002 / 1000 \/ 1002 / 1000 <= α) with h | h
    · exact h
    · have h7 := hWb.sq
      rw [<- α2] at h7
      have := Rat.mul_nonneg (by grind : 0 <= α - 1002 / 1000) (by grind : 0 <= α + 1002 / 1000)
      grind
  have hzb : Bd (pz k) (pz k) := by unfold Bd; exact ⟨by grind, Rat.le_refl⟩
  have hb := α1.mul hzb
  have hB := Bg_ge
  have hbig : α * pz k <= Bg := by
    have := Rat.mul_nonneg (by grind : 0 <= 1002 / 1000 - α) (by grind : 0 <= pz k)
    grind
  have h := scl_near hW.1 hk (hb.mono hbig) _ hb
  have he := eta_le
  have he0 := eta_pos
  have h2 := quo_z hz h1 h (Rat.le_of_lt he0)
  obtain ⟨a1, a2⟩ := h2
  obtain ⟨b1, b2⟩ := hW.2
  generalize rv (sclF W k) / pz k = t at *
  clear h hb hbig hzb hB hWb α1 α2 hW
  constructor <;> grind
theorem turn_full {w x y z p q r : Fl} {M : Rat} (hR : Room M) (h : allFin [w, x, y, z] = true) (hu : Bd (Nq (rv w) (rv x) (rv y) (rv z) - 1) (1 / 1000)) (fp : finF p = true) (fq : finF q = true) (fr : finF r = true) (bp : Bd (rv p) M) (bq : Bd (rv q) M) (br : Bd (rv r) M) :
    Ap (t0 w x y z p q r) (T0 (rv w) (rv x) (rv y) (rv z) (rv p) (rv q) (rv r)) (75 * uu * M) /\ Ap (t1 w x y z p q r) (T0 (rv w) (rv y) (rv z) (rv x) (rv q) (rv r) (rv p)) (75 * uu * M) /\ Ap (t2 w x y z p q r) (T0 (rv w) (rv z) (rv x) (rv y) (rv r) (rv p) (rv q)) (75 * uu * M) := by
  obtain ⟨fw, fx, fy, fz⟩ := fin4 h
  obtain ⟨bw, bx, bY, bz⟩ := Un_bd hu
  obtain ⟨⟨a0, b0⟩, ⟨a1, b1⟩, ⟨a2, b2⟩⟩ := turn_near hR fw bw fx bx fy bY fz bz fp bp fq bq fr br
  exact ⟨turn1_near hR fw bw fy bY fz bz fp bp a0 a1 a2 b0 b1 b2, turn1_near hR fw bw fz bz fx bx fq bq a1 a2 a0 b1 b2 b0, turn1_near hR fw bw fx bx fy bY fr br a2 a0 a1 b2 b0 b1⟩

set_option linter.unusedVariables false

theorem neg_ex {N : Nat} (hN : 1000 <= N) {E B : Nat} {x : Int × Int} (hx : Ex E B x) (hB : B <= 20000) (k : Bool -> List Int -> Bool) : sZ6 N x.1 (decide (x.2 < 0)) (digs x.2.natAbs) k = k (decide ((exNeg x).2 < 0)) (digs (exNeg x).2.natAbs) := by
  unfold sZ6 GZ6
  rw [law_Neg_n _ _ _ (bits_short hN (by omega) hx.2.2), ival_nat]
  rfl
theorem one_Ap : Ap (some 4607182418800017408) 1 0 := by
  obtain ⟨h1, h2⟩ := rv_pow read_one (n := 0) (by decide)
  have e4 : Ue 0 = 1 := by
    have := Ue_mul 0
    rw [show (2 : Rat) ^ 0 = 1 by decide +kernel, Rat.one_mul] at this
    exact this
  refine ⟨h1, ?_⟩
  rw [h2, e4]; unfold Bd; grind
theorem twice_near {x : Fl} {a : Rat} (h : Ap x a (81 / 20 * uu) /\ Bd a (203 / 100)) : Ap (fmul (some 4611686018427387904) x) (2 * a) (123 / 10 * uu) /\ Bd (2 * a) (407 / 100) := by
  have h22 : Bd (2 : Rat) 2 := by unfold Bd; grind
  have hB := Bg_ge
  have he := eta_le
  have he0 := eta_pos
  refine ⟨(Ap.mul two_Ap h.1 h22 h.2 (by grind) (h := uu / 1000) (by grind) (.inr (by grind))).mono (by grind), (h22.mul h.2).mono (by grind)⟩
theorem diag_near {y z : Fl} (fy : finF y = true) (fz : finF z = true) (bY : Bd (rv y) kap) (bz : Bd (rv z) kap) : Ap (fsub (some 4607182418800017408) (fmul (some 4611686018427387904) (fadd (fmul y y) (fmul z z)))) (1 - 2 * (rv y * rv y + rv z * rv z)) (18 * uu) /\ Bd (1 - 2 * (rv y * rv y + rv z * rv z)) (508 / 100) := by
  have h1 := twice_near (add_st (E := 81 / 20 * uu) (D := 203 / 100) (p_near fy fy bY bY) (p_near fz fz bz bz) (by grind) (by grind) (by grind))
  have h2 : Ap (some 4607182418800017408) 1 0 /\ Bd (1 : Rat) 1 := ⟨one_Ap, by unfold Bd; grind⟩
  exact sub_st h2 h1 (by grind) (by grind) (by grind)
theorem offm_near {x y w z : Fl} (fx : finF x = true) (fy : finF y = true) (fw : finF w = true) (fz : finF z = true) (bx : Bd (rv x) kap) (bY : Bd (rv y) kap) (bw : Bd (rv w) kap) (bz : Bd (rv z) kap) :
    (Ap (fmul (some 4611686018427387904) (fsub (fmul x y) (fmul w z))) (2 * (rv x * rv y - rv w * rv z)) (18 * uu) /\ Bd (2 * (rv x * rv y - rv w * rv z)) (508 / 100)) /\
    (Ap (fmul (some 4611686018427387904) (fadd (fmul x y) (fmul w z))) (2 * (rv x * rv y + rv w * rv z)) (18 * uu) /\ Bd (2 * (rv x * rv y + rv w * rv z)) (508 / 100)) := by
  have h1 := twice_near (sub_st (E := 81 / 20 * uu) (D := 203 / 100) (p_near fx fy bx bY) (p_near fw fz bw bz) (by grind) (by grind) (by grind))
  have h2 := twice_near (add_st (E := 81 / 20 * uu) (D := 203 / 100) (p_near fx fy bx bY) (p_near fw fz bw bz) (by grind) (by grind) (by grind))
  exact ⟨⟨h1.1.mono (by grind), h1.2.mono (by grind)⟩, ⟨h2.1.mono (by grind), h2.2.mono (by grind)⟩⟩
theorem ent_near {m p : Fl} {e M : Rat} (hR : Room M) (h : Ap m e (18 * uu) /\ Bd e (508 / 100)) (fp : finF p = true) (bp : Bd (rv p) M) : Ap (fmul m p) (e * rv p) (24 * uu * M) /\ Bd (e * rv p) (508 / 100 * M) := by
  obtain ⟨h0, h1, h2⟩ := hR
  refine ⟨(Ap.mul h.1 (Ap.self fp) h.2 bp (by grind) (h := uu * M / 1000) (by grind) ?_).mono (by grind), h.2.mul bp⟩
  rcases h1 with h | h
  · left; rw [h]; grind
  · right; exact h
theorem row_near {m0 m1 m2 p q r : Fl} {e0 e1 e2 M : Rat} (hR : Room M) (h0 : Ap m0 e0 (18 * uu) /\ Bd e0 (508 / 100)) (h1 : Ap m1 e1 (18 * uu) /\ Bd e1 (508 / 100)) (h2 : Ap m2 e2 (18 * uu) /\ Bd e2 (508 / 100)) (fp : finF p = true) (fq : finF q = true) (fr : finF r = true) (bp : Bd (rv p) M) (bq : Bd (rv q) M) (br : Bd (rv r) M) :
    Ap (fadd (fadd (fmul m0 p) (fmul m1 q)) (fmul m2 r)) (e0 * rv p + e1 * rv q + e2 * rv r) (100 * uu * M) := by
  have a := ent_near hR h0 fp bp
  have b := ent_near hR h1 fq bq
  have c := ent_near hR h2 fr br
  obtain ⟨r0, r1, r2⟩ := hR
  have ab := (Ap.add a.1 b.1 (a.2.add b.2) (by grind)).mono (f := 60 * uu * M) (by grind)
  exact (Ap.add ab c.1 ((a.2.add b.2).add c.2) (by grind)).mono (by grind)

set_option linter.unusedVariables false

theorem comb4 {o A D B t e1 e2 e3 e4 E : Rat} (h1 : Bd (o - A) e1) (h2 : Bd (A - D) e2) (h3 : Bd (B - D) e3) (h4 : Bd (t - B) e4) (hE : e1 + e2 + e3 + e4 <= E) : Bd (o - t) E := by
  obtain ⟨a1, a2⟩ := h1
  obtain ⟨b1, b2⟩ := h2
  obtain ⟨c1, c2⟩ := h3
  obtain ⟨d1, d2⟩ := h4
  constructor <;> grind
theorem comb3 {o A D B e1 e2 e3 E : Rat} (h1 : Bd (o - A) e1) (h2 : Bd (A - D) e2) (h3 : Bd (D - B) e3) (hE : e1 + e2 + e3 <= E) : Bd (o - B) E := by
  obtain ⟨a1, a2⟩ := h1
  obtain ⟨b1, b2⟩ := h2
  obtain ⟨c1, c2⟩ := h3
  constructor <;> grind
theorem comb2 {o A B e1 e2 E : Rat} (h1 : Bd (o - A) e1) (h2 : Bd (B - A) e2) (hE : e1 + e2 <= E) : Bd (o - B) E := by
  obtain ⟨a1, a2⟩ := h1
  obtain ⟨b1, b2⟩ := h2
  constructor <;> grind
theorem allFin3x {a b c : Fl} (h0 : finF a = true) (h1 : finF b = true) (h2 : finF c = true) : allFin [a, b, c] = true := by
  refine allN_iff.2 fun i hi => ?_
  have hi : i < 3 := hi
  match i, hi with
  | 0, _ => exact h0
  | 1, _ => exact h1
  | 2, _ => exact h2
theorem law_ConjQ {N : Nat} (hN : 1000 <= N) {a b c d : Fl} (h : allFin [a, b, c, d] = true) (κ : K4) : sZ95 N a b c d κ = κ a (fneg b) (fneg c) (fneg d) 0 := by
  unfold sZ95 GZ95
  rw [law_good hN, h]; rfl
theorem q1 {a b c d p q r s : Fl} {jw jx jy jz u v t M : Rat} {cc hw hx hy hz : Rat} (ha : Un (rv a) (rv b) (rv c) (rv d)) (hb : Un (rv p) (rv q) (rv r) (rv s))
    (gw : Bd (hw - (rv a * rv p - rv b * rv q - rv c * rv r - rv d * rv s)) (147 / 10 * uu)) (gx : Bd (hx - (rv a * rv q + rv b * rv p + rv c * rv s - rv d * rv r)) (147 / 10 * uu)) (gy : Bd (hy - (rv a * rv r - rv b * rv s + rv c * rv p + rv d * rv q)) (147 / 10 * uu)) (gz : Bd (hz - (rv a * rv s + rv b * rv r - rv c * rv q + rv d * rv p)) (147 / 10 * uu))
    (hY : Bd (cc * cc * Nq hw hx hy hz - 1) (81 / 10 * uu)) (cw : Bd (cc * hw) kap) (cx : Bd (cc * hx) kap) (cy : Bd (cc * hy) kap) (cz : Bd (cc * hz) kap)
    (dw : Bd (jw - cc * hw) (205 / 100 * uu)) (dx : Bd (jx - cc * hx) (205 / 100 * uu)) (dy : Bd (jy - cc * hy) (205 / 100 * uu)) (dz : Bd (jz - cc * hz) (205 / 100 * uu))
    (hj : Bd (Nq jw jx jy jz - 1) (1 / 562949953421312)) (hu : Bd u M) (hv : Bd v M) (ht : Bd t M)
    {o0 o1 o2 m0 m1 m2 w0 w1 w2 : Fl} (O0 : Ap o0 (T0 jw jx jy jz u v t) (75 * uu * M)) (O1 : Ap o1 (T0 jw jy jz jx v t u) (75 * uu * M)) (O2 : Ap o2 (T0 jw jz jx jy t u v) (75 * uu * M))
    (M0 : Ap m0 (T0 (rv p) (rv q) (rv r) (rv s) u v t) (75 * uu * M)) (M1 : Ap m1 (T0 (rv p) (rv r) (rv s) (rv q) v t u) (75 * uu * M)) (M2 : Ap m2 (T0 (rv p) (rv s) (rv q) (rv r) t u v) (75 * uu * M))
    (W0 : Ap w0 (T0 (rv a) (rv b) (rv c) (rv d) (rv m0) (rv m1) (rv m2)) (75 * uu * (304 / 100 * M))) (W1 : Ap w1 (T0 (rv a) (rv c) (rv d) (rv b) (rv m1) (rv m2) (rv m0)) (75 * uu * (304 / 100 * M))) (W2 : Ap w2 (T0 (rv a) (rv d) (rv b) (rv c) (rv m2) (rv m0) (rv m1)) (75 * uu * (304 / 100 * M))) :
    Bd (rv o0 - rv w0) (2040 * uu * M) /\ Bd (rv o1 - rv w1) (2040 * uu * M) /\ Bd (rv o2 - rv w2) (2040 * uu * M) := by
  have hM := hu.nonneg
  have k0 := close0 ha hb gw gx gy gz hY cw cx cy cz dw dx dy dz hj hu hv ht
  have n1 : Nq hw hy hz hx = Nq hw hx hy hz := by unfold Nq; grind
  have n2 : Nq hw hz hx hy = Nq hw hx hy hz := by unfold Nq; grind
  have l1 : Nq jw jy jz jx = Nq jw jx jy jz := by unfold Nq; grind
  have l2 : Nq jw jz jx jy = Nq jw jx jy jz := by unfold Nq; grind
  have k1 := close0 (a := rv a) (b := rv c) (c := rv d) (d := rv b) (p := rv p) (q := rv r) (r := rv s) (s := rv q) ha.cyc hb.cyc (hw := hw) (hx := hy) (hy := hz) (hz := hx) (jw := jw) (jx := jy) (jy := jz) (jz := jx) (cc := cc)
    (by have e : rv a * rv p - rv c * rv r - rv d * rv s - rv b * rv q = rv a * rv p - rv b * rv q - rv c * rv r - rv d * rv s := by grind
        rw [e]; exact gw)
    (by have e : rv a * rv r + rv c * rv p + rv d * rv q - rv b * rv s = rv a * rv r - rv b * rv s + rv c * rv p + rv d * rv q := by grind
        rw [e]; exact gy)
    (by have e : rv a * rv s - rv c * rv q + rv d * rv p + rv b * rv r = rv a * rv s + rv b * rv r - rv c * rv q + rv d * rv p := by grind
        rw [e]; exact gz)
    (by have e : rv a * rv q + rv c * rv s - rv d * rv r + rv b * rv p = rv a * rv q + rv b * rv p + rv c * rv s - rv d * rv r := by grind
        rw [e]; exact gx)
    (by rw [n1]; exact hY) cw cy cz cx dw dy dz dx (by rw [l1]; exact hj) hv ht hu
  have k2 := close0 (a := rv a) (b := rv d) (c := rv b) (d := rv c) (p := rv p) (q := rv s) (r := rv q) (s := rv r) ha.cyc.cyc hb.cyc.cyc (hw := hw) (hx := hz) (hy := hx) (hz := hy) (jw := jw) (jx := jz) (jy := jx) (jz := jy) (cc := cc)
    (by have e : rv a * rv p - rv d * rv s - rv b * rv q - rv c * rv r = rv a * rv p - rv b * rv q - rv c * rv r - rv d * rv s := by grind
        rw [e]; exact gw)
    (by have e : rv a * rv s + rv d * rv p + rv b * rv r - rv c * rv q = rv a * rv s + rv b * rv r - rv c * rv q + rv d * rv p := by grind
        rw [e]; exact gz)
    (by have e : rv a * rv q - rv d * rv r + rv b * rv p + rv c * rv s = rv a * rv q + rv b * rv p + rv c * rv s - rv d * rv r := by grind
        rw [e]; exact gx)
    (by have e : rv a * rv r + rv d * rv q - rv b * rv s + rv c * rv p = rv a * rv r - rv b * rv s + rv c * rv p + rv d * rv q := by grind
        rw [e]; exact gy)
    (by rw [n2]; exact hY) cw cz cx cy dw dz dx dy (by rw [l2]; exact hj) ht hu hv
  have t0 := through ha M0.2 M1.2 M2.2
  have t1 := through ha.cyc M1.2 M2.2 M0.2
  have t2 := through ha.cyc.cyc M2.2 M0.2 M1.2
  refine ⟨comb4 O0.2 k0 t0 W0.2 ?_, comb4 O1.2 k1 t1 W1.2 ?_, comb4 O2.2 k2 t2 W2.2 ?_⟩ <;> grind
theorem q2 {a b c d : Rat} {u v t M : Rat} (ha : Un a b c d) (hu : Bd u M) (hv : Bd v M) (ht : Bd t M) {o0 o1 o2 w0 w1 w2 : Fl} (O0 : Ap o0 (T0 a b c d u v t) (75 * uu * M)) (O1 : Ap o1 (T0 a c d b v t u) (75 * uu * M)) (O2 : Ap o2 (T0 a d b c t u v) (75 * uu * M))
    (W0 : Ap w0 (T0 a (-b) (-c) (-d) (rv o0) (rv o1) (rv o2)) (75 * uu * (304 / 100 * M))) (W1 : Ap w1 (T0 a (-c) (-d) (-b) (rv o1) (rv o2) (rv o0)) (75 * uu * (304 / 100 * M))) (W2 : Ap w2 (T0 a (-d) (-b) (-c) (rv o2) (rv o0) (rv o1)) (75 * uu * (304 / 100 * M))) :
    Bd (rv w0 - u) (2040 * uu * M) /\ Bd (rv w1 - v) (2040 * uu * M) /\ Bd (rv w2 - t) (2040 * uu * M) := by
  have hM := hu.nonneg
  have k0 := back0 ha hu hv ht
  have k1 := back0 ha.cyc hv ht hu
  have k2 := back0 ha.cyc.cyc ht hu hv
  have t0 := through ha.neg O0.2 O1.2 O2.2
  have t1 := through ha.cyc.neg O1.2 O2.2 O0.2
  have t2 := through ha.cyc.cyc.neg O2.2 O0.2 O1.2
  refine ⟨comb3 W0.2 t0 k0 ?_, comb3 W1.2 t1 k1 ?_, comb3 W2.2 t2 k2 ?_⟩ <;> grind
theorem q3 {w x y z u v t : Fl} {M : Rat} (hR : Room M) (h : allFin [w, x, y, z] = true) (hn : Bd (Nq (rv w) (rv x) (rv y) (rv z) - 1) (1 / 1000)) (fu : finF u = true) (fv : finF v = true) (ft : finF t = true) (hu : Bd (rv u) M) (hv : Bd (rv v) M) (ht : Bd (rv t) M)
    {o0 o1 o2 : Fl} (O0 : Ap o0 (T0 (rv w) (rv x) (rv y) (rv z) (rv u) (rv v) (rv t)) (75 * uu * M)) (O1 : Ap o1 (T0 (rv w) (rv y) (rv z) (rv x) (rv v) (rv t) (rv u)) (75 * uu * M)) (O2 : Ap o2 (T0 (rv w) (rv z) (rv x) (rv y) (rv t) (rv u) (rv v)) (75 * uu * M)) :
    allFin (matE w x y z) = true /\
    (finF (fadd (fadd (fmul (List.getD (matE w x y z) 0 none) u) (fmul (List.getD (matE w x y z) 1 none) v)) (fmul (List.getD (matE w x y z) 2 none) t)) = true /\ Bd (rv o0 - rv (fadd (fadd (fmul (List.getD (matE w x y z) 0 none) u) (fmul (List.getD (matE w x y z) 1 none) v)) (fmul (List.getD (matE w x y z) 2 none) t))) (2040 * uu * M)) /\
    (finF (fadd (fadd (fmul (List.getD (matE w x y z) 3 none) u) (fmul (List.getD (matE w x y z) 4 none) v)) (fmul (List.getD (matE w x y z) 5 none) t)) = true /\ Bd (rv o1 - rv (fadd (fadd (fmul (List.getD (matE w x y z) 3 none) u) (fmul (List.getD (matE w x y z) 4 none) v)) (fmul (List.getD (matE w x y z) 5 none) t))) (2040 * uu * M)) /\
    (finF (fadd (fadd (fmul (List.getD (matE w x y z) 6 none) u) (fmul (List.getD (matE w x y z) 7 none) v)) (fmul (List.getD (matE w x y z) 8 none) t)) = true /\ Bd (rv o2 - rv (fadd (fadd (fmul (List.getD (matE w x y z) 6 none) u) (fmul (List.getD (matE w x y z) 7 none) v)) (fmul (List.getD (matE w x y z) 8 none) t))) (2040 * uu * M)) := by
  obtain ⟨fw, fx, fy, fz⟩ := fin4 h
  obtain ⟨bw, bx, bY, bz⟩ := Un_bd hn
  have hM := hu.nonneg
  have d0 := diag_near fy fz bY bz
  have d4 := diag_near fx fz bx bz
  have d8 := diag_near fx fy bx bY
  obtain ⟨d1, d3⟩ := offm_near fx fy fw fz bx bY bw bz
  obtain ⟨d6, d2⟩ := offm_near fx fz fw fy bx bz bw bY
  obtain ⟨d5, d7⟩ := offm_near fy fz fw fx bY bz bw bx
  have r0 := row_near hR d0 d1 d2 fu fv ft hu hv ht
  have r1 := row_near hR d3 d4 d5 fu fv ft hu hv ht
  have r2 := row_near hR d6 d7 d8 fu fv ft hu hv ht
  have e0 := T0_mat (rv w) (rv x) (rv y) (rv z) (rv u) (rv v) (rv t)
  have e1 : T0 (rv w) (rv y) (rv z) (rv x) (rv v) (rv t) (rv u) = 2 * (rv x * rv y + rv w * rv z) * rv u + (1 - 2 * (rv x * rv x + rv z * rv z)) * rv v + 2 * (rv y * rv z - rv w * rv x) * rv t := by rw [T0_mat]; grind
  have e2 : T0 (rv w) (rv z) (rv x) (rv y) (rv t) (rv u) (rv v) = 2 * (rv x * rv z - rv w * rv y) * rv u + 2 * (rv y * rv z + rv w * rv x) * rv v + (1 - 2 * (rv x * rv x + rv y * rv y)) * rv t := by rw [T0_mat]; grind
  rw [e0] at O0
  rw [e1] at O1
  rw [e2] at O2
  refine ⟨?_, ⟨r0.1, comb2 O0.2 r0.2 (by grind)⟩, ⟨r1.1, comb2 O1.2 r1.2 (by grind)⟩, ⟨r2.1, comb2 O2.2 r2.2 (by grind)⟩⟩
  refine allN_iff.2 fun i hi => ?_
  have hi : i < 9 := hi
  match i, hi with
  | 0, _ => exact d0.1.1
  | 1, _ => exact d1.1.1
  | 2, _ => exact d2.1.1
  | 3, _ => exact d3.1.1
  | 4, _ => exact d4.1.1
  | 5, _ => exact d5.1.1
  | 6, _ => exact d6.1.1
  | 7, _ => exact d7.1.1
  | 8, _ => exact d8.1.1




end Go.Proofs.YtgngdkjghdohiaaGreat
