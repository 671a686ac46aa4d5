/-
  PURE: laws of the seat's functions, taken over from another seat of mine.
  Conditions: none.
-/
import Derived.Test.YtnfgnjciliapaaaGreatDoorL2
import Derived.Test.YtnfgnjciliapaaaGreatDoorFlG
namespace Go.Proofs.YtnfgnjciliapaaaGreatDoor
open Go Go.Mach Ieee
set_option linter.unusedVariables false

set_option linter.unusedVariables false

theorem ldexp_S {N : Nat} (hN : 1000 <= N) (κ : Fl -> Bool) : sQ109 N (some 4607182418800017408) (-400) κ = κ cS := by
  obtain ⟨M, rfl⟩ : ∃ M, N = M + 1000 := ⟨N - 1000, by omega⟩
  kernel_rfl
theorem ldexp_G {N : Nat} (hN : 1000 <= N) (κ : Fl -> Bool) : sQ109 N (some 4607182418800017408) 400 κ = κ cG := by
  obtain ⟨M, rfl⟩ : ∃ M, N = M + 1000 := ⟨N - 1000, by omega⟩
  kernel_rfl
theorem law_absF (N : Nat) (x : Fl) (κ : Fl -> Bool) : s_m_Abs N x κ = κ (absF x) := rfl
theorem law_tame {N : Nat} (hN : 1000 <= N) (a b c : Fl) (k : Bool -> Bool) : sQ47 N a b c k = k (tameB a && (tameB b && tameB c)) := by
  unfold sQ47 GQ47 tameB
  simp only [law_absF, ldexp_S hN, ldexp_G hN]
  cases feq a (some 0) <;> cases feq b (some 0) <;> cases feq c (some 0) <;> cases fge (absF a) cS <;> cases fle (absF a) cG <;> cases fge (absF b) cS <;> cases fle (absF b) cG <;> cases fge (absF c) cS <;> cases fle (absF c) cG <;> rfl
def tw (w y z p C0 C1 C2 : Fl) : Fl := fadd (fadd p (fmul w (fmul C0 (some 4611686018427387904)))) (fsub (fmul y (fmul C2 (some 4611686018427387904))) (fmul z (fmul C1 (some 4611686018427387904))))
def cx (b c s t : Fl) : Fl := fsub (fmul b s) (fmul c t)
def t0 (w x y z p q r : Fl) : Fl := tw w y z p (cx y z r q) (cx z x p r) (cx x y q p)
def t1 (w x y z p q r : Fl) : Fl := tw w z x q (cx z x p r) (cx x y q p) (cx y z r q)
def t2 (w x y z p q r : Fl) : Fl := tw w x y r (cx x y q p) (cx y z r q) (cx z x p r)
theorem lawQ77 {N : Nat} (hN : 1000 <= N) {w x y z p q r : Fl} (h : allFin [w, x, y, z] = true) (g : allFin [p, q, r] = true) (f : allFin [t0 w x y z p q r, t1 w x y z p q r, t2 w x y z p q r] = true) (κ : Fl -> Fl -> Fl -> Int -> Bool) :
    sQ77 N w x y z p q r κ = κ (t0 w x y z p q r) (t1 w x y z p q r) (t2 w x y z p q r) 0 := by
  unfold sQ77 GQ77
  rw [law_good hN, h, show ((!true) == false) = true from rfl, cond_true, lawQ29 _ (small_of hN (Nat.le_of_ble_eq_true rfl)), g, Bool.not_true, cond_false]
  show sQ133 N (t0 w x y z p q r) (t1 w x y z p q r) (t2 w x y z p q r) _ = _
  unfold sQ133 GQ133
  rw [lawQ29 _ (small_of hN (Nat.le_of_ble_eq_true rfl)), f]
  rfl
theorem Sc_Sp : Sc = Sp := by rw [Sp_eq]; have := Sc_ge; have := Sc_le; omega
theorem val_rv {x : Fl} (hx : finF x = true) : ((valE x : Int) : Rat) * Ue Sc = rv x := by
  obtain ⟨b, s, m, i, rfl, h⟩ := finF_num hx
  rw [valE_num h, rv_num h, Sc_Sp, Sp_eq]; rfl
theorem dot_rv {a b : List Fl} : ∀ n, FinL a n -> FinL b n -> ((dotVal a b (n + 1) : Int) : Rat) * Ue (Sc + Sc) = ((dotVal a b n : Int) : Rat) * Ue (Sc + Sc) + ((valE (a.getD n none) : Int) : Rat) * Ue Sc * (((valE (b.getD n none) : Int) : Rat) * Ue Sc) := by
  intro n ha hb
  show ((dotVal a b n + valE (a.getD n none) * valE (b.getD n none) : Int) : Rat) * _ = _
  rw [Rat.intCast_add, Rat.intCast_mul, Ue_add]
  generalize ((dotVal a b n : Int) : Rat) = d
  generalize ((valE (a.getD n none) : Int) : Rat) = p
  generalize ((valE (b.getD n none) : Int) : Rat) = q
  generalize Ue Sc = u
  grind
theorem dot0_rv (a b : List Fl) : ((dotVal a b 0 : Int) : Rat) * Ue (Sc + Sc) = 0 := by
  show ((0 : Int) : Rat) * _ = 0
  exact Rat.zero_mul _
theorem dot4_rv {a b c d : Fl} (h : FinL [a, b, c, d] 4) : ((dotVal [a, b, c, d] [a, b, c, d] 4 : Int) : Rat) * Ue (Sc + Sc) = rv a * rv a + rv b * rv b + rv c * rv c + rv d * rv d := by
  have f0 := val_rv (h 0 (by decide)).1
  have f1 := val_rv (h 1 (by decide)).1
  have f2 := val_rv (h 2 (by decide)).1
  have f3 := val_rv (h 3 (by decide)).1
  rw [dot_rv 3 (h.mono (by decide)) (h.mono (by decide)), dot_rv 2 (h.mono (by decide)) (h.mono (by decide)), dot_rv 1 (h.mono (by decide)) (h.mono (by decide)), dot_rv 0 (h.mono (by decide)) (h.mono (by decide)), dot0_rv, f0, f1, f2, f3, Rat.zero_add]
  rfl
theorem dot3_rv {a b c : Fl} (h : FinL [a, b, c] 3) : ((dotVal [a, b, c] [a, b, c] 3 : Int) : Rat) * Ue (Sc + Sc) = rv a * rv a + rv b * rv b + rv c * rv c := by
  have f0 := val_rv (h 0 (by decide)).1
  have f1 := val_rv (h 1 (by decide)).1
  have f2 := val_rv (h 2 (by decide)).1
  rw [dot_rv 2 (h.mono (by decide)) (h.mono (by decide)), dot_rv 1 (h.mono (by decide)) (h.mono (by decide)), dot_rv 0 (h.mono (by decide)) (h.mono (by decide)), dot0_rv, f0, f1, f2, Rat.zero_add]
  rfl
theorem finL3 {a b c : Fl} (h : allFin [a, b, c] = true) (ha : FW a) (hb : FW b) (hc : FW c) : FinL [a, b, c] 3 := by
  have h := allN_iff.1 h
  intro i hi
  exact ⟨h i hi, FW3 ha hb hc i hi⟩
theorem pE_rv {e : Int} {n : Nat} (he : e = -(n : Int)) (hn : n <= 1000) : ((pE e : Int) : Rat) * Ue (Sc + Sc) = Ue n := by
  unfold pE
  have h1 := Sc_ge
  have h2 : (e + ((Sc + Sc : Nat) : Int)).toNat = Sc + Sc - n := by omega
  rw [h2, Int.one_mul, Rat.intCast_pow]
  obtain ⟨m, hm⟩ : ∃ m, Sc + Sc = m + n := ⟨Sc + Sc - n, by omega⟩
  rw [hm, Nat.add_sub_cancel, Ue_add, <- Rat.mul_assoc]
  have h3 : ((2 : Int) : Rat) ^ m * Ue m = 1 := Ue_mul m
  rw [h3, Rat.one_mul]
theorem good_rv {a b c d : Fl} (h : FinL [a, b, c, d] 4) (g : sgnI (offE a b c d) <= 0) : Bd (rv a * rv a + rv b * rv b + rv c * rv c + rv d * rv d - 1) (1 / 281474976710656) := by
  have h0 : offE a b c d <= 0 := by
    unfold sgnI at g
    by_cases hz : offE a b c d = 0
    · omega
    · rw [if_neg hz] at g
      by_cases hl : offE a b c d < 0
      · omega
      · rw [if_neg hl] at g; omega
  unfold offE at h0
  have u0 := Ue_pos (Sc + Sc)
  have e1 := dot4_rv h
  have e2 : ((pE 0 : Int) : Rat) * Ue (Sc + Sc) = Ue 0 := pE_rv rfl (by decide)
  have e3 : ((pE (-48) : Int) : Rat) * Ue (Sc + Sc) = Ue 48 := pE_rv rfl (by decide)
  have e4 := Ue_mul 0
  have e5 := Ue_mul 48
  have e6 : (2 : Rat) ^ 48 = 281474976710656 := by decide +kernel
  have e7 : (2 : Rat) ^ 0 = 1 := by decide +kernel
  rw [e6] at e5
  rw [e7] at e4
  generalize dotVal [a, b, c, d] [a, b, c, d] 4 = D at *
  generalize pE 0 = P at *
  generalize pE (-48) = Q at *
  have k1 : D - P <= Q := by omega
  have k2 : -(D - P) <= Q := by omega
  have c1 := Rat.intCast_le_intCast.2 k1
  have c2 := Rat.intCast_le_intCast.2 k2
  rw [Rat.intCast_sub] at c1
  rw [Rat.intCast_neg, Rat.intCast_sub] at c2
  have m1 := Rat.mul_nonneg ((Rat.le_iff_sub_nonneg _ _).1 c1) (Rat.le_of_lt u0)
  have m2 := Rat.mul_nonneg ((Rat.le_iff_sub_nonneg _ _).1 c2) (Rat.le_of_lt u0)
  rw [<- e1]
  generalize ((D : Int) : Rat) = x at *
  generalize ((P : Int) : Rat) = y at *
  generalize ((Q : Int) : Rat) = w at *
  generalize Ue (Sc + Sc) = u at *
  have n1 : 0 <= w * u - (x * u - y * u) := by grind
  have n2 : 0 <= w * u - (y * u - x * u) := by grind
  rw [e2, e3] at n1 n2
  constructor <;> grind
set_option linter.unusedVariables false

theorem scl_bd {s : Bool} {m : Nat} {i : Int} (hm : m ≠ 0) (h : i + m.log2 <= 0) (hi : -2400 <= i) : finF (some (Ieee.double.nearest s m i)) = true /\ Bd (rv (some (Ieee.double.nearest s m i))) 3 := by
  obtain ⟨E, hE⟩ : ∃ E : Nat, E = 2400 := ⟨_, rfl⟩
  obtain ⟨n1, n2⟩ := near_rat s hm (i := i) (by omega) (E := E) (by omega) (by omega)
  refine ⟨n1, ?_⟩
  have hX : m * 2 ^ (i + E).toNat <= 2 * 2 ^ E := by
    have h1 : m < 2 ^ (m.log2 + 1) := Nat.lt_log2_self
    have h2 := Nat.mul_le_mul_right (2 ^ (i + E).toNat) (Nat.le_of_lt h1)
    rw [<- Nat.pow_add] at h2
    refine Nat.le_trans h2 ?_
    have : 2 * 2 ^ E = 2 ^ (E + 1) := by rw [Nat.pow_succ, Nat.mul_comm]
    rw [this]
    exact Nat.pow_le_pow_right (by decide) (by omega)
  have hR : ((m * 2 ^ (i + E).toNat : Nat) : Rat) * Ue E <= 2 /\ 0 <= ((m * 2 ^ (i + E).toNat : Nat) : Rat) * Ue E := by
    have h1 := Rat.natCast_le_natCast.2 hX
    have h2 : ((2 * 2 ^ E : Nat) : Rat) = 2 * 2 ^ E := by rw [Rat.natCast_mul, Rat.natCast_pow]; rfl
    rw [h2] at h1
    have h3 := Ue_mul E
    have h4 := Ue_pos E
    have h5 : (0 : Rat) <= ((m * 2 ^ (i + E).toNat : Nat) : Rat) := Rat.natCast_nonneg
    generalize ((m * 2 ^ (i + E).toNat : Nat) : Rat) = x at *
    generalize (2 : Rat) ^ E = p at *
    generalize Ue E = u at *
    have h6 := Rat.mul_nonneg (by grind : 0 <= 2 * p - x) (by grind : 0 <= u)
    exact ⟨by grind, Rat.mul_nonneg h5 (by grind)⟩
  rw [signed_cast] at n2
  generalize hXX : ((m * 2 ^ (i + E).toNat : Nat) : Rat) = x at *
  have hb : Bd ((if s = true then -x else x) * Ue E) 2 := by
    generalize hu : Ue E = u at *
    cases s
    · rw [if_neg (by decide)]; exact ⟨by grind, by grind⟩
    · rw [if_pos rfl, Rat.neg_mul]; exact ⟨by grind, by grind⟩
  have h := n2 2 hb
  have he := eta_le
  have he0 := eta_pos
  have hw : (if -1074 <= i then (0 : Rat) else eta) <= eta := by split <;> grind
  generalize (if -1074 <= i then (0 : Rat) else eta) = w at *
  generalize (if s = true then -x else x) * Ue E = z at *
  obtain ⟨a, b⟩ := hb
  obtain ⟨c, d⟩ := h
  exact ⟨by grind, by grind⟩
theorem scl_rat {N : Nat} {xs : List Fl} (hf : FinW xs) (h0 : feq (mostF xs xs.length) (some 0) = false) :
    ∃ fr e, (∀ κ : Fl -> Int -> Bool, sQ138 N (mostF xs xs.length) κ = κ fr e) /\ -1200 <= e /\ e <= 1200 /\
      (∀ i, i < xs.length -> finF (sclF (xs.getD i none) (1 - e)) = true /\ Bd (rv (sclF (xs.getD i none) (1 - e))) 3) /\
      ∃ j, j < xs.length /\ 1 <= rv (sclF (xs.getD j none) (1 - e)) * rv (sclF (xs.getD j none) (1 - e)) := by
  obtain ⟨hm, hmw⟩ := most_fin hf xs.length (Nat.le_refl _)
  obtain ⟨hle, hone⟩ := most_vl hf xs.length (Nat.le_refl _)
  obtain ⟨fr, e, he, he1, he2, he3⟩ := law_frexp N hm hmw h0
  obtain ⟨b, s, m, i, hb, hr⟩ := finF_num hm
  have hei := he3 b s m i hb hr
  have hm0 : m ≠ 0 := by
    rw [hb, feq_zero hr] at h0
    exact of_decide_eq_false h0
  have hgi := place_ge hr
  rcases hone with e0 | ⟨j, hj, ej⟩
  · rw [e0] at h0
    exact absurd h0 (by decide)
  obtain ⟨hjf, hjw⟩ := hf j hj
  obtain ⟨bj, sj, mj, ij, hbj, hrj⟩ := finF_num hjf
  have hsame : mj = m /\ ij = i := by
    obtain ⟨c, hc, hcw, hcr⟩ := absF_num (hjw bj hbj) hrj
    rw [hbj, hc] at ej
    rw [ej] at hb
    cases hb
    rw [hcr] at hr
    cases hr
    exact ⟨rfl, rfl⟩
  obtain ⟨rfl, rfl⟩ := hsame
  have hvm : vl (mostF xs xs.length) = ((mj * 2 ^ (ij + 1074).toNat : Nat) : Int) := by
    rw [ej]; exact vl_abs hjf hjw hbj hrj
  refine ⟨fr, e, he, he1, he2, fun l hl => ?_, j, hj, ?_⟩
  · obtain ⟨hlf, hlw⟩ := hf l hl
    obtain ⟨bl, sl, ml, il, hbl, hrl⟩ := finF_num hlf
    rw [hbl, sclF_num hrl]
    have hgl := place_ge hrl
    by_cases hz : ml = 0
    · rw [hz, nearest_zero]
      obtain ⟨w1, w2⟩ := rv_word0 sl
      refine ⟨w1, ?_⟩
      rw [w2]; unfold Bd; grind
    · have hv := hle l hl
      rw [hvm, vl_abs hlf hlw hbl hrl] at hv
      have := log2_vl hz (Int.ofNat_le.1 hv) hgi hgl
      exact scl_bd hz (by omega) (by omega)
  · rw [hbj, sclF_num hrj]
    have hpm := place_le hrj
    obtain ⟨h1, h2⟩ := lift52 hm0 hpm.2
    have e2 : Ieee.double.nearest sj mj (ij + (1 - e)) = Ieee.double.nearest sj (mj <<< (52 - mj.log2)) (-52) := by
      rw [<- nearest_lift sj mj (ij + (1 - e))]
      congr 1
      have : mj.log2 <= 52 := by
        have := (Nat.log2_lt hm0).2 (by simpa using hpm.2 : mj < 2 ^ 53)
        omega
      omega
    have e3 : Ieee.double.nearest sj (mj <<< (52 - mj.log2)) (-52) = Ieee.double.word sj (((-52 : Int) + 1075).toNat * 4503599627370496 + (mj <<< (52 - mj.log2) - 4503599627370496)) :=
      write_read (word_W64 sj (by omega)) (read_normal sj _ _ ⟨h1, h2⟩ (by omega))
    rw [e2, e3, rv_num (read_normal sj _ _ ⟨h1, h2⟩ (by omega)), signed_cast]
    generalize mj <<< (52 - mj.log2) = M at *
    generalize hA : ((-52 : Int) + 1074).toNat = a
    have hS : Sp = a + 52 := by rw [Sp_eq, <- hA]; decide
    have hval : ((M * 2 ^ a : Nat) : Rat) * Ue Sp = (M : Rat) * Ue 52 := by
      rw [hS, Rat.natCast_mul, Rat.natCast_pow, Ue_add]
      have h3 : ((2 : Nat) : Rat) ^ a * Ue a = 1 := Ue_mul a
      rw [Rat.mul_assoc, <- Rat.mul_assoc _ (Ue a), h3, Rat.one_mul]
    have hM : 1 <= (M : Rat) * Ue 52 := by
      have h4 := Ue_mul 52
      have h5 : (2 : Rat) ^ 52 = 4503599627370496 := by decide +kernel
      rw [h5] at h4
      have h6 := Rat.natCast_le_natCast.2 h1
      have h7 : ((4503599627370496 : Nat) : Rat) = 4503599627370496 := rfl
      rw [h7] at h6
      have h8 := Ue_pos 52
      generalize (M : Rat) = x at *
      generalize Ue 52 = u at *
      have := Rat.mul_nonneg (by grind : 0 <= x - 4503599627370496) (by grind : 0 <= u)
      grind
    have hsq : ((if sj = true then -((M * 2 ^ a : Nat) : Rat) else ((M * 2 ^ a : Nat) : Rat)) * Ue Sp) * ((if sj = true then -((M * 2 ^ a : Nat) : Rat) else ((M * 2 ^ a : Nat) : Rat)) * Ue Sp) = ((M : Rat) * Ue 52) * ((M : Rat) * Ue 52) := by
      rw [<- hval]
      generalize ((M * 2 ^ a : Nat) : Rat) = x
      generalize Ue Sp = u
      cases sj
      · rfl
      · rw [if_pos rfl]; grind
    rw [hsq]
    generalize (M : Rat) * Ue 52 = x at *
    have := Rat.mul_nonneg (by grind : 0 <= x - 1) (by grind : 0 <= x - 1)
    grind

set_option linter.unusedVariables false

def U4 (x y z w : Fl) : Prop := allFin [x, y, z, w] = true /\ Bd (rv x * rv x + rv y * rv y + rv z * rv z + rv w * rv w - 1) (1 / 562949953421312)
def Res (f : K4 -> Bool) : Prop := ∃ x y z w n, (FW x /\ FW y /\ FW z /\ FW w) /\ (n = 0 -> U4 x y z w) /\ ∀ κ, f κ = κ x y z w n
theorem allFin4' {a b c d : Fl} (h0 : finF a = true) (h1 : finF b = true) (h2 : finF c = true) (h3 : finF d = true) : allFin [a, b, c, d] = true := by
  refine allN_iff.2 fun i hi => ?_
  have hi : i < 4 := hi
  match i, hi with
  | 0, _ => exact h0
  | 1, _ => exact h1
  | 2, _ => exact h2
  | 3, _ => exact h3
theorem most_zero {xs : List Fl} (hf : FinW xs) (h0 : feq (mostF xs xs.length) (some 0) = true) {i : Nat} (hi : i < xs.length) : rv (xs.getD i none) = 0 := by
  obtain ⟨hm, hmw⟩ := most_fin hf xs.length (Nat.le_refl _)
  obtain ⟨hle, -⟩ := most_vl hf xs.length (Nat.le_refl _)
  have h1 := (feq_rv hm rv_zero.1).1 h0
  have h2 := rv_eq.2 h1
  have h3 : vl (some 0) = 0 := by
    have := read_zero
    rw [vl_num this, signed_zero]
  obtain ⟨hf1, hw1⟩ := hf i hi
  obtain ⟨b, s, m, j, hb, hr⟩ := finF_num hf1
  have h4 := hle i hi
  rw [h2, h3, vl_abs hf1 hw1 hb hr] at h4
  have h5 : m * 2 ^ (j + 1074).toNat = 0 := by omega
  have h6 : m = 0 := by
    rcases Nat.mul_eq_zero.1 h5 with h | h
    · exact h
    · exact absurd h (Nat.pos_iff_ne_zero.1 (Nat.two_pow_pos _))
  rw [hb, rv_num hr, h6, signed_zero]
  exact Rat.zero_mul _
theorem one4 {a b c d : Rat} (h0 : 0 <= a) (h1 : 0 <= b) (h2 : 0 <= c) (h3 : 0 <= d) (h : 1 <= a \/ 1 <= b \/ 1 <= c \/ 1 <= d) : 1 <= a + b + c + d := by
  rcases h with h | h | h | h <;> grind
set_option linter.unusedVariables false
set_option maxRecDepth 4000

theorem law_good2 {N : Nat} (hN : 1000 <= N) (a b c d p q r s : Fl) (k : Bool -> Bool) : sQ90 N a b c d p q r s k = k (allFin [a, b, c, d] && allFin [p, q, r, s]) := by
  unfold sQ90 GQ90
  rw [lawQ29 _ (small_of hN (Nat.le_of_ble_eq_true rfl))]
  cases allFin [a, b, c, d]
  · rfl
  · rw [Bool.not_true, cond_false, lawQ29 _ (small_of hN (Nat.le_of_ble_eq_true rfl))]
    cases allFin [p, q, r, s] <;> rfl
theorem fin4 {a b c d : Fl} (h : allFin [a, b, c, d] = true) : finF a = true /\ finF b = true /\ finF c = true /\ finF d = true := by
  have h := allN_iff.1 h
  exact ⟨h 0 (Nat.le_of_ble_eq_true rfl), h 1 (Nat.le_of_ble_eq_true rfl), h 2 (Nat.le_of_ble_eq_true rfl), h 3 (Nat.le_of_ble_eq_true rfl)⟩
def mulK (a b c d p q r s : Fl) (κ : K4) : Bool := κ (fsub (fsub (fsub (fmul a p) (fmul b q)) (fmul c r)) (fmul d s)) (fsub (fadd (fadd (fmul a q) (fmul b p)) (fmul c s)) (fmul d r)) (fadd (fadd (fsub (fmul a r) (fmul b s)) (fmul c p)) (fmul d q)) (fadd (fsub (fadd (fmul a s) (fmul b r)) (fmul c q)) (fmul d p)) 0
set_option linter.unusedVariables false
set_option maxRecDepth 4000

def jq (N : Nat) (a b c d : Fl) (κ : K4) : Bool := cond (!allFin [a, b, c, d]) (κ (some 0) (some 0) (some 0) (some 0) 5) (sQ85 N a b c d κ)
def matE (a b c d : Fl) : List Fl := [(fsub (some 4607182418800017408) (fmul (some 4611686018427387904) (fadd (fmul c c) (fmul d d)))), (fmul (some 4611686018427387904) (fsub (fmul b c) (fmul a d))), (fmul (some 4611686018427387904) (fadd (fmul b d) (fmul a c))), (fmul (some 4611686018427387904) (fadd (fmul b c) (fmul a d))), (fsub (some 4607182418800017408) (fmul (some 4611686018427387904) (fadd (fmul b b) (fmul d d)))), (fmul (some 4611686018427387904) (fsub (fmul c d) (fmul a b))), (fmul (some 4611686018427387904) (fsub (fmul b d) (fmul a c))), (fmul (some 4611686018427387904) (fadd (fmul c d) (fmul a b))), (fsub (some 4607182418800017408) (fmul (some 4611686018427387904) (fadd (fmul b b) (fmul c c))))]
theorem law_Matrix {N : Nat} (hN : 1000 <= N) (a b c d : Fl) (k0 : Int -> Int -> Int -> Bool) (k1 : Int -> Int -> Int -> List Fl -> Bool) : sQ84 N a b c d k0 k1 = cond (allFin [a, b, c, d]) (cond (allFin (matE a b c d)) (k1 3 3 0 (matE a b c d)) (k0 0 0 5)) (k0 0 0 4) := by
  unfold sQ84 GQ84
  rw [law_good hN]
  cases allFin [a, b, c, d]
  · rfl
  · rw [Bool.not_true, cond_false, cond_true]
    refine (lawQ29 (matE a b c d) (small_of hN (Nat.le_of_ble_eq_true rfl)) _).trans ?_
    cases allFin (matE a b c d) <;> rfl
set_option linter.unusedVariables false

theorem Res_congr {f g : K4 -> Bool} (h : ∀ κ, f κ = g κ) (hg : Res g) : Res f := by
  obtain ⟨x, y, z, w, n, h1, h2, h3⟩ := hg
  exact ⟨x, y, z, w, n, h1, h2, fun κ => by rw [h, h3]⟩
theorem law_MulQ {N : Nat} (hN : 1000 <= N) (a b c d p q r s : Fl) (κ : K4) : sQ110 N a b c d p q r s κ = cond (allFin [a, b, c, d] && allFin [p, q, r, s]) (mulK a b c d p q r s (fun x y z w _ => cond (!allFin [x, y, z, w]) (κ (some 0) (some 0) (some 0) (some 0) 5) (κ x y z w 0))) (κ (some 0) (some 0) (some 0) (some 0) 4) := by
  unfold sQ110 GQ110
  rw [law_good2 hN]
  cases (allFin [a, b, c, d] && allFin [p, q, r, s])
  · rfl
  · rw [Bool.not_true, cond_false, cond_true]
    unfold sQ137 GQ137 mulK
    dsimp only
    rw [law_told hN]
set_option linter.unusedVariables false

theorem int_of_rat {x y : Int} {u : Rat} (hu : 0 < u) (h : ((x : Int) : Rat) * u <= ((y : Int) : Rat) * u) : x <= y := by
  rw [<- Rat.intCast_le_intCast]
  generalize ((x : Int) : Rat) = a at *
  generalize ((y : Int) : Rat) = b at *
  rcases (Rat.le_total : a <= b \/ b <= a) with k | k
  · exact k
  · by_cases e : a = b
    · rw [e]; exact Rat.le_refl
    · have := Rat.mul_pos (by grind : 0 < a - b) hu
      grind
end Go.Proofs.YtnfgnjciliapaaaGreatDoor
