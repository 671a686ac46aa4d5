/-
  UNIT: what package quat calls a unit is one.
  Conditions: words.
-/
import Derived.Test.YtnfgnjciliapaaaGreatDoorL2
import Derived.Test.YtnfgnjciliapaaaGreatDoorFlG
import Derived.Test.YtnfgnjciliapaaaGreatDoorL3
import Derived.Test.YtnfgnjciliapaaaGreatDoorS0
section
namespace Go.Proofs.YtnfgnjciliapaaaGreatDoor
open Go Go.Mach Ieee
set_option linter.unusedVariables false

theorem scl_bd {s : Bool} {m : Nat} {i : Int} (hm : m ≠ 0) (h : i + m.log2 <= 0) (hi : -2400 <= i) : finF (some (Ieee.double.nearest s m i)) = true /\ Bd (rv (some (Ieee.double.nearest s m i))) 3 := by
  obtain ⟨E, hE⟩ : ∃ E : Nat, E = 2400 := ⟨_, rfl⟩
  obtain ⟨n1, n2⟩ := near_rat s hm (i := i) (by omega) (E := E) (by omega) (by omega)
  refine ⟨n1, ?_⟩
  have hX : m * 2 ^ (i + E).toNat <= 2 * 2 ^ E := by
    have h1 : m < 2 ^ (m.log2 + 1) := Nat.lt_log2_self
    have h2 := Nat.mul_le_mul_right (2 ^ (i + E).toNat) (Nat.le_of_lt h1)
    rw [<- Nat.pow_add] at h2
    refine Nat.le_trans h2 ?_
    have : 2 * 2 ^ E = 2 ^ (E + 1) := by rw [Nat.pow_succ, Nat.mul_comm]
    rw [this]
    exact Nat.pow_le_pow_right (by decide) (by omega)
  have hR : ((m * 2 ^ (i + E).toNat : Nat) : Rat) * Ue E <= 2 /\ 0 <= ((m * 2 ^ (i + E).toNat : Nat) : Rat) * Ue E := by
    have h1 := Rat.natCast_le_natCast.2 hX
    have h2 : ((2 * 2 ^ E : Nat) : Rat) = 2 * 2 ^ E := by rw [Rat.natCast_mul, Rat.natCast_pow]; rfl
    rw [h2] at h1
    have h3 := Ue_mul E
    have h4 := Ue_pos E
    have h5 : (0 : Rat) <= ((m * 2 ^ (i + E).toNat : Nat) : Rat) := Rat.natCast_nonneg
    generalize ((m * 2 ^ (i + E).toNat : Nat) : Rat) = x at *
    generalize (2 : Rat) ^ E = p at *
    generalize Ue E = u at *
    have h6 := Rat.mul_nonneg (by grind : 0 <= 2 * p - x) (by grind : 0 <= u)
    exact ⟨by grind, Rat.mul_nonneg h5 (by grind)⟩
  rw [signed_cast] at n2
  generalize hXX : ((m * 2 ^ (i + E).toNat : Nat) : Rat) = x at *
  have hb : Bd ((if s = true then -x else x) * Ue E) 2 := by
    generalize hu : Ue E = u at *
    cases s
    · rw [if_neg (by decide)]; exact ⟨by grind, by grind⟩
    · rw [if_pos rfl, Rat.neg_mul]; exact ⟨by grind, by grind⟩
  have h := n2 2 hb
  have he := eta_le
  have he0 := eta_pos
  have hw : (if -1074 <= i then (0 : Rat) else eta) <= eta := by split <;> grind
  generalize (if -1074 <= i then (0 : Rat) else eta) = w at *
  generalize (if s = true then -x else x) * Ue E = z at *
  obtain ⟨a, b⟩ := hb
  obtain ⟨c, d⟩ := h
  exact ⟨by grind, by grind⟩
theorem scl_rat {N : Nat} {xs : List Fl} (hf : FinW xs) (h0 : feq (mostF xs xs.length) (some 0) = false) :
    ∃ fr e, (∀ κ : Fl -> Int -> Bool, sQ120 N (mostF xs xs.length) κ = κ fr e) /\ -1200 <= e /\ e <= 1200 /\
      (∀ i, i < xs.length -> finF (sclF (xs.getD i none) (1 - e)) = true /\ Bd (rv (sclF (xs.getD i none) (1 - e))) 3) /\
      ∃ j, j < xs.length /\ 1 <= rv (sclF (xs.getD j none) (1 - e)) * rv (sclF (xs.getD j none) (1 - e)) := by
  obtain ⟨hm, hmw⟩ := most_fin hf xs.length (Nat.le_refl _)
  obtain ⟨hle, hone⟩ := most_vl hf xs.length (Nat.le_refl _)
  obtain ⟨fr, e, he, he1, he2, he3⟩ := law_frexp N hm hmw h0
  obtain ⟨b, s, m, i, hb, hr⟩ := finF_num hm
  have hei := he3 b s m i hb hr
  have hm0 : m ≠ 0 := by
    rw [hb, feq_zero hr] at h0
    exact of_decide_eq_false h0
  have hgi := place_ge hr
  rcases hone with e0 | ⟨j, hj, ej⟩
  · rw [e0] at h0
    exact absurd h0 (by decide)
  obtain ⟨hjf, hjw⟩ := hf j hj
  obtain ⟨bj, sj, mj, ij, hbj, hrj⟩ := finF_num hjf
  have hsame : mj = m /\ ij = i := by
    obtain ⟨c, hc, hcw, hcr⟩ := absF_num (hjw bj hbj) hrj
    rw [hbj, hc] at ej
    rw [ej] at hb
    cases hb
    rw [hcr] at hr
    cases hr
    exact ⟨rfl, rfl⟩
  obtain ⟨rfl, rfl⟩ := hsame
  have hvm : vl (mostF xs xs.length) = ((mj * 2 ^ (ij + 1074).toNat : Nat) : Int) := by
    rw [ej]; exact vl_abs hjf hjw hbj hrj
  refine ⟨fr, e, he, he1, he2, fun l hl => ?_, j, hj, ?_⟩
  · obtain ⟨hlf, hlw⟩ := hf l hl
    obtain ⟨bl, sl, ml, il, hbl, hrl⟩ := finF_num hlf
    rw [hbl, sclF_num hrl]
    have hgl := place_ge hrl
    by_cases hz : ml = 0
    · rw [hz, nearest_zero]
      obtain ⟨w1, w2⟩ := rv_word0 sl
      refine ⟨w1, ?_⟩
      rw [w2]; unfold Bd; grind
    · have hv := hle l hl
      rw [hvm, vl_abs hlf hlw hbl hrl] at hv
      have := log2_vl hz (Int.ofNat_le.1 hv) hgi hgl
      exact scl_bd hz (by omega) (by omega)
  · rw [hbj, sclF_num hrj]
    have hpm := place_le hrj
    obtain ⟨h1, h2⟩ := lift52 hm0 hpm.2
    have e2 : Ieee.double.nearest sj mj (ij + (1 - e)) = Ieee.double.nearest sj (mj <<< (52 - mj.log2)) (-52) := by
      rw [<- nearest_lift sj mj (ij + (1 - e))]
      congr 1
      have : mj.log2 <= 52 := by
        have := (Nat.log2_lt hm0).2 (by simpa using hpm.2 : mj < 2 ^ 53)
        omega
      omega
    have e3 : Ieee.double.nearest sj (mj <<< (52 - mj.log2)) (-52) = Ieee.double.word sj (((-52 : Int) + 1075).toNat * 4503599627370496 + (mj <<< (52 - mj.log2) - 4503599627370496)) :=
      write_read (word_W64 sj (by omega)) (read_normal sj _ _ ⟨h1, h2⟩ (by omega))
    rw [e2, e3, rv_num (read_normal sj _ _ ⟨h1, h2⟩ (by omega)), signed_cast]
    generalize mj <<< (52 - mj.log2) = M at *
    generalize hA : ((-52 : Int) + 1074).toNat = a
    have hS : Sp = a + 52 := by rw [Sp_eq, <- hA]; decide
    have hval : ((M * 2 ^ a : Nat) : Rat) * Ue Sp = (M : Rat) * Ue 52 := by
      rw [hS, Rat.natCast_mul, Rat.natCast_pow, Ue_add]
      have h3 : ((2 : Nat) : Rat) ^ a * Ue a = 1 := Ue_mul a
      rw [Rat.mul_assoc, <- Rat.mul_assoc _ (Ue a), h3, Rat.one_mul]
    have hM : 1 <= (M : Rat) * Ue 52 := by
      have h4 := Ue_mul 52
      have h5 : (2 : Rat) ^ 52 = 4503599627370496 := by decide +kernel
      rw [h5] at h4
      have h6 := Rat.natCast_le_natCast.2 h1
      have h7 : ((4503599627370496 : Nat) : Rat) = 4503599627370496 := rfl
      rw [h7] at h6
      have h8 := Ue_pos 52
      generalize (M : Rat) = x at *
      generalize Ue 52 = u at *
      have := Rat.mul_nonneg (by grind : 0 <= x - 4503599627370496) (by grind : 0 <= u)
      grind
    have hsq : ((if sj = true then -((M * 2 ^ a : Nat) : Rat) else ((M * 2 ^ a : Nat) : Rat)) * Ue Sp) * ((if sj = true then -((M * 2 ^ a : Nat) : Rat) else ((M * 2 ^ a : Nat) : Rat)) * Ue Sp) = ((M : Rat) * Ue 52) * ((M : Rat) * Ue 52) := by
      rw [<- hval]
      generalize ((M * 2 ^ a : Nat) : Rat) = x
      generalize Ue Sp = u
      cases sj
      · rfl
      · rw [if_pos rfl]; grind
    rw [hsq]
    generalize (M : Rat) * Ue 52 = x at *
    have := Rat.mul_nonneg (by grind : 0 <= x - 1) (by grind : 0 <= x - 1)
    grind
end Go.Proofs.YtnfgnjciliapaaaGreatDoor
end
section
namespace Go.Proofs.YtnfgnjciliapaaaGreatDoor
open Go Go.Mach Ieee
set_option linter.unusedVariables false

def U4 (x y z w : Fl) : Prop := allFin [x, y, z, w] = true /\ Bd (rv x * rv x + rv y * rv y + rv z * rv z + rv w * rv w - 1) (1 / 562949953421312)
def Res (f : K4 -> Bool) : Prop := ∃ x y z w n, (FW x /\ FW y /\ FW z /\ FW w) /\ (n = 0 -> U4 x y z w) /\ ∀ κ, f κ = κ x y z w n
theorem Res_err {f : K4 -> Bool} {n : Int} (hn : n ≠ 0) (h : ∀ κ, f κ = κ (some 0) (some 0) (some 0) (some 0) n) : Res f := ⟨_, _, _, _, n, ⟨FW_zero, FW_zero, FW_zero, FW_zero⟩, fun h => absurd h hn, h⟩
theorem allFin4' {a b c d : Fl} (h0 : finF a = true) (h1 : finF b = true) (h2 : finF c = true) (h3 : finF d = true) : allFin [a, b, c, d] = true := by
  refine allN_iff.2 fun i hi => ?_
  have hi : i < 4 := hi
  match i, hi with
  | 0, _ => exact h0
  | 1, _ => exact h1
  | 2, _ => exact h2
  | 3, _ => exact h3
theorem most_zero {xs : List Fl} (hf : FinW xs) (h0 : feq (mostF xs xs.length) (some 0) = true) {i : Nat} (hi : i < xs.length) : rv (xs.getD i none) = 0 := by
  obtain ⟨hm, hmw⟩ := most_fin hf xs.length (Nat.le_refl _)
  obtain ⟨hle, -⟩ := most_vl hf xs.length (Nat.le_refl _)
  have h1 := (feq_rv hm rv_zero.1).1 h0
  have h2 := rv_eq.2 h1
  have h3 : vl (some 0) = 0 := by
    have := read_zero
    rw [vl_num this, signed_zero]
  obtain ⟨hf1, hw1⟩ := hf i hi
  obtain ⟨b, s, m, j, hb, hr⟩ := finF_num hf1
  have h4 := hle i hi
  rw [h2, h3, vl_abs hf1 hw1 hb hr] at h4
  have h5 : m * 2 ^ (j + 1074).toNat = 0 := by omega
  have h6 : m = 0 := by
    rcases Nat.mul_eq_zero.1 h5 with h | h
    · exact h
    · exact absurd h (Nat.pos_iff_ne_zero.1 (Nat.two_pow_pos _))
  rw [hb, rv_num hr, h6, signed_zero]
  exact Rat.zero_mul _
theorem one4 {a b c d : Rat} (h0 : 0 <= a) (h1 : 0 <= b) (h2 : 0 <= c) (h3 : 0 <= d) (h : 1 <= a \/ 1 <= b \/ 1 <= c \/ 1 <= d) : 1 <= a + b + c + d := by
  rcases h with h | h | h | h <;> grind
theorem unit_full {N : Nat} (hN : 1000 <= N) {a b c d : Fl} (ha : FW a) (hb : FW b) (hc : FW c) (hd : FW d) :
    ∃ x y z w n, (FW x /\ FW y /\ FW z /\ FW w) /\ (n = 0 -> U4 x y z w) /\ (∀ κ, sQ13 N a b c d κ = κ x y z w n) /\ (allFin [a, b, c, d] = true -> rv a ≠ 0 \/ rv b ≠ 0 \/ rv c ≠ 0 \/ rv d ≠ 0 -> n = 0) := by
  cases hall : allFin [a, b, c, d] with
  | false =>
    refine ⟨_, _, _, _, 4, ⟨FW_zero, FW_zero, FW_zero, FW_zero⟩, fun h => absurd h (by decide), fun κ => ?_, fun h => by cases h⟩
    unfold sQ13 GQ13
    rw [law_good hN, hall]; rfl
  | true =>
    have hf := finW_of (FW4 ha hb hc hd) hall
    cases h0 : feq (mostF [a, b, c, d] 4) (some 0) with
    | true =>
      refine ⟨_, _, _, _, 120, ⟨FW_zero, FW_zero, FW_zero, FW_zero⟩, fun h => absurd h (by decide), fun κ => ?_, fun _ h => ?_⟩
      · unfold sQ13 GQ13
        rw [law_good hN, hall, Bool.not_true, cond_false]
        unfold sQ26 GQ26
        simp only [s_m_Abs]
        have hm : fmm true (fmm true (fmm true (fmm true (some 0) (absF a)) (absF b)) (absF c)) (absF d) = mostF [a, b, c, d] 4 := rfl
        rw [hm, h0, cond_true]
      · exfalso
        rcases h with h | h | h | h
        · exact h (most_zero hf h0 (i := 0) (Nat.le_of_ble_eq_true rfl))
        · exact h (most_zero hf h0 (i := 1) (Nat.le_of_ble_eq_true rfl))
        · exact h (most_zero hf h0 (i := 2) (Nat.le_of_ble_eq_true rfl))
        · exact h (most_zero hf h0 (i := 3) (Nat.le_of_ble_eq_true rfl))
    | false =>
      obtain ⟨fr, e, he, he1, he2, hfin, j, hj, hge⟩ := scl_rat (N := N) hf h0
      have q := unit_q hN hall hf h0 he he1 he2
      obtain ⟨f0, b0⟩ := hfin 0 (Nat.le_of_ble_eq_true rfl)
      obtain ⟨f1, b1⟩ := hfin 1 (Nat.le_of_ble_eq_true rfl)
      obtain ⟨f2, b2⟩ := hfin 2 (Nat.le_of_ble_eq_true rfl)
      obtain ⟨f3, b3⟩ := hfin 3 (Nat.le_of_ble_eq_true rfl)
      have z0 := sq_nonneg (rv (sclF a (1 - e)))
      have z1 := sq_nonneg (rv (sclF b (1 - e)))
      have z2 := sq_nonneg (rv (sclF c (1 - e)))
      have z3 := sq_nonneg (rv (sclF d (1 - e)))
      have h1 : 1 <= rv (sclF a (1 - e)) * rv (sclF a (1 - e)) + rv (sclF b (1 - e)) * rv (sclF b (1 - e)) + rv (sclF c (1 - e)) * rv (sclF c (1 - e)) + rv (sclF d (1 - e)) * rv (sclF d (1 - e)) := by
        match j, hj, hge with
        | 0, _, h => exact one4 z0 z1 z2 z3 (.inl h)
        | 1, _, h => exact one4 z0 z1 z2 z3 (.inr (.inl h))
        | 2, _, h => exact one4 z0 z1 z2 z3 (.inr (.inr (.inl h)))
        | 3, _, h => exact one4 z0 z1 z2 z3 (.inr (.inr (.inr h)))
      obtain ⟨⟨g0, g1, g2, g3⟩, hu⟩ := unit_near f0 f1 f2 f3 b0 b1 b2 b3 h1 rfl
      exact ⟨_, _, _, _, 0, ⟨FW_fdiv _ _, FW_fdiv _ _, FW_fdiv _ _, FW_fdiv _ _⟩, fun _ => ⟨allFin4' g0 g1 g2 g3, hu⟩, q, fun _ _ => rfl⟩
theorem unit_res {N : Nat} (hN : 1000 <= N) {a b c d : Fl} (ha : FW a) (hb : FW b) (hc : FW c) (hd : FW d) : Res (sQ13 N a b c d) := by
  obtain ⟨x, y, z, w, n, h1, h2, h3, -⟩ := unit_full hN ha hb hc hd
  exact ⟨x, y, z, w, n, h1, h2, h3⟩
end Go.Proofs.YtnfgnjciliapaaaGreatDoor
end
section
namespace Go.Proofs.YtnfgnjciliapaaaGreatDoor
open Go Go.Mach Ieee
set_option linter.unusedVariables false

theorem Res_congr {f g : K4 -> Bool} (h : ∀ κ, f κ = g κ) (hg : Res g) : Res f := by
  obtain ⟨x, y, z, w, n, h1, h2, h3⟩ := hg
  exact ⟨x, y, z, w, n, h1, h2, fun κ => by rw [h, h3]⟩
theorem Res_cond (c : Bool) {f g : K4 -> Bool} (hf : Res f) (hg : Res g) : Res (fun κ => cond c (f κ) (g κ)) := by
  cases c
  · exact hg
  · exact hf
theorem Res_e {n : Int} (hn : n ≠ 0) : Res (fun κ => κ (some 0) (some 0) (some 0) (some 0) n) := Res_err hn fun _ => rfl
theorem Res_n (n : Int) {g : K4 -> Bool} (hg : Res g) : Res (fun κ => cond (n != 0) (κ (some 0) (some 0) (some 0) (some 0) n) (g κ)) := by
  by_cases h : n = 0
  · subst h; exact hg
  · have hb : (n != 0) = true := by rw [bne_iff_ne]; exact h
    refine Res_congr (fun κ => ?_) (Res_e h)
    rw [hb]; rfl
theorem FW_one : FW (some 4607182418800017408) := fun b h => by cases h; decide
theorem cayley_res {N : Nat} (hN : 1000 <= N) (a b c : Fl) : Res (sQ42 N a b c) :=
  Res_congr (fun κ => rfl) (unit_res hN FW_one (FW_fdiv a (some 4611686018427387904)) (FW_fdiv b (some 4611686018427387904)) (FW_fdiv c (some 4611686018427387904)))
theorem jq_res {N : Nat} (hN : 1000 <= N) {a b c d : Fl} (ha : FW a) (hb : FW b) (hc : FW c) (hd : FW d) : Res (jq N a b c d) := Res_cond _ (Res_e (by decide)) (unit_res hN ha hb hc hd)
theorem from_res {N : Nat} (hN : 1000 <= N) (r c : Int) (xs : List Fl) (hl : Small N xs.length) : Res (sQ56 N r c xs) := by
  have e1 : ∀ κ, sQ56 N r c xs κ = sQ76 N r c xs (fun nr => cond (nr != 0) (κ (some 0) (some 0) (some 0) (some 0) nr) (cond ((r != 3) == false) (cond (c != 3) (κ (some 0) (some 0) (some 0) (some 0) 3) (sQ56 N r c xs κ)) (κ (some 0) (some 0) (some 0) (some 0) 3))) := by
    intro κ
    unfold sQ56 GQ56
    rw [law_Check r c xs hl, law_Check r c xs hl]
    cases (chk r c xs != 0) <;> cases ((r != 3) == false) <;> cases (c != 3) <;> rfl
  by_cases h0 : chk r c xs = 0
  · by_cases hr : r = 3
    · by_cases hc : c = 3
      · subst hr; subst hc
        obtain ⟨-, h2, h3⟩ := chk_zero.1 h0
        obtain ⟨a0, a1, a2, a3, a4, a5, a6, a7, a8, rfl⟩ := nine (xs := xs) (by omega)
        refine Res_congr (fun κ => from_q hN h3 rfl κ) ?_
        exact Res_cond _ (Res_e (by decide)) (Res_cond _ (jq_res hN (FW_fadd _ _) (FW_fsub _ _) (FW_fsub _ _) (FW_fsub _ _)) (Res_cond _ (jq_res hN (FW_fsub _ _) (FW_fsub _ _) (FW_fadd _ _) (FW_fadd _ _)) (Res_cond _ (jq_res hN (FW_fsub _ _) (FW_fadd _ _) (FW_fsub _ _) (FW_fadd _ _)) (jq_res hN (FW_fsub _ _) (FW_fadd _ _) (FW_fadd _ _) (FW_fadd _ _)))))
      · have b3 : (c != 3) = true := by rw [bne_iff_ne]; exact hc
        refine Res_err (n := 3) (by decide) (fun κ => ?_)
        rw [e1, law_Check r c xs hl, h0, b3]
        cases ((r != 3) == false) <;> rfl
    · have b2 : ((r != 3) == false) = false := by
        have : (r != 3) = true := by rw [bne_iff_ne]; exact hr
        rw [this]; rfl
      refine Res_err (n := 3) (by decide) (fun κ => ?_)
      rw [e1, law_Check r c xs hl, h0, b2]
      rfl
  · have b1 : (chk r c xs != 0) = true := by rw [bne_iff_ne]; exact h0
    refine Res_err h0 (fun κ => ?_)
    rw [e1, law_Check r c xs hl, b1]; rfl
theorem ldexp_NN (N : Nat) {g : Fl} (hg : NN g) {e : Int} (h1 : -5000 <= e) (h2 : e <= 5000) (κ : Fl -> Bool) : sQ101 N g e κ = κ (sclF g e) := by
  obtain ⟨b, rfl, hw, h | h⟩ := hg
  · obtain ⟨m, i, h⟩ := h
    have hf := finF_of h
    have hF : FW (some b) := fun c hc => by cases hc; exact hw
    exact law_Ldexp N hf hF h1 h2 κ
  · have hb := inf_word hw h
    have e : sclF (some b) e = some b := by unfold sclF; simp only [h]
    rw [e, hb]
    exact law_Ldexp_inf N _ κ
theorem length_ex {N : Nat} (hN : 1000 <= N) {xs : List Fl} (hl : xs.length <= 48) (hw : ∀ i, i < xs.length -> FW (xs.getD i none)) :
    ∃ x n, ∀ κ, sQ136 N xs κ = κ x n := by
  have hS : Small N xs.length := ⟨by omega, by omega⟩
  have d1 : decide (((xs.length : Nat) : Int) > 48) = false := dec_false (by omega)
  have n4 : ((4 : Int) != 0) = true := by decide
  have n0 : ((0 : Int) != 0) = false := by decide
  cases ha : allFin xs with
  | false =>
    refine ⟨some 0, 4, fun κ => ?_⟩
    unfold sQ136 GQ136 sQ170 GQ170
    rw [d1, cond_false, law_Finite xs hS, ha]
    dsimp only
    rw [Bool.not_false, cond_true, n4, cond_true]
  | true =>
    have hf := finW_of hw ha
    obtain ⟨hm, hmw⟩ := most_fin hf xs.length (Nat.le_refl _)
    have q1 : ∀ κ, sQ136 N xs κ = sQ137 N xs (fun xr => cond (!finF xr) (κ (some 0) 5) (κ xr 0)) := by
      intro κ
      unfold sQ136 GQ136 sQ170 GQ170
      rw [d1, cond_false, law_Finite xs hS, ha]
      dsimp only
      rw [Bool.not_true, cond_false, n0, cond_false]
      simp only [sQ141, GQ141, fin_eq]
    cases h0 : feq (mostF xs xs.length) (some 0) with
    | true =>
      refine ⟨some 0, 0, fun κ => ?_⟩
      rw [q1]
      unfold sQ137 GQ137
      rw [lawQ148 hN hl, h0, cond_true]
      rfl
    | false =>
      obtain ⟨fr, e, he, he1, he2, -⟩ := law_frexp N hm hmw h0
      have hg : NN (fsqrt (sumSq (scl xs (0 - (e - 1))) xs.length)) := NN_fsqrt (NN_sumSq hf _ _ (Nat.le_refl _))
      have s1 := fun κ => ldexp_NN N hg (e := e - 1) (by omega) (by omega) κ
      have r1 : ∀ κ, sQ136 N xs κ = (fun xr => cond (!finF xr) (κ (some 0) 5) (κ xr 0)) (sclF (fsqrt (sumSq (scl xs (0 - (e - 1))) xs.length)) (e - 1)) := by
        intro κ
        rw [q1]
        unfold sQ137 GQ137
        rw [lawQ148 hN hl, h0, cond_false, he]
        dsimp only
        rw [and_tr (fits_ok (by omega) (by omega)), Bool.not_true, cond_false, lawQ133 hN hl hf (by omega) (by omega), s1]
      generalize sclF (fsqrt (sumSq (scl xs (0 - (e - 1))) xs.length)) (e - 1) = y at r1
      cases hy : finF y with
      | false => exact ⟨some 0, 5, fun κ => by rw [r1]; dsimp only; rw [hy]; rfl⟩
      | true => exact ⟨y, 0, fun κ => by rw [r1]; dsimp only; rw [hy]; rfl⟩
theorem between_res {N : Nat} (hN : 1000 <= N) {a b c p q r : Fl} (ha : FW a) (hb : FW b) (hc : FW c) (hp : FW p) (hq : FW q) (hr : FW r) : Res (sQ28 N a b c p q r) := by
  obtain ⟨g, m, gf⟩ := length_ex hN (xs := [a, b, c]) (le3 a b c) (FW3 ha hb hc)
  obtain ⟨h, o, of⟩ := length_ex hN (xs := [p, q, r]) (le3 p q r) (FW3 hp hq hr)
  obtain ⟨x, y, z, w, ⟨w0, w1, w2, w3⟩, hB⟩ := betw_both hN (fdiv a g) (fdiv b g) (fdiv c g) (fdiv p h) (fdiv q h) (fdiv r h)
  have e1 : ∀ κ : K4, sQ28 N a b c p q r κ = cond (allFin [a, b, c]) (cond (allFin [p, q, r]) (cond (feq a (some 0) && (feq b (some 0) && feq c (some 0))) (κ (some 0) (some 0) (some 0) (some 0) 120) (cond (feq p (some 0) && (feq q (some 0) && feq r (some 0))) (κ (some 0) (some 0) (some 0) (some 0) 120)
      (cond (m != 0) (κ (some 0) (some 0) (some 0) (some 0) m) (cond (o != 0) (κ (some 0) (some 0) (some 0) (some 0) o) (betw (fun x y z w => sQ13 N x y z w κ) (fdiv a g) (fdiv b g) (fdiv c g) (fdiv p h) (fdiv q h) (fdiv r h)))))) (κ (some 0) (some 0) (some 0) (some 0) 4)) (κ (some 0) (some 0) (some 0) (some 0) 4) := by
    intro κ
    unfold sQ28 GQ28
    rw [lawQ12 _ (small_of hN (Nat.le_of_ble_eq_true rfl))]
    cases allFin [a, b, c]
    · rfl
    · rw [show ((!true) == false) = true from rfl, cond_true, cond_true, lawQ12 _ (small_of hN (Nat.le_of_ble_eq_true rfl))]
      cases allFin [p, q, r]
      · rfl
      · rw [Bool.not_true, cond_false, cond_true]
        cases (feq a (some 0) && (feq b (some 0) && feq c (some 0)))
        · rw [show (false == false) = true from rfl, cond_true, cond_false]
          cases (feq p (some 0) && (feq q (some 0) && feq r (some 0)))
          · rw [cond_false, cond_false]
            unfold sQ73 GQ73
            rw [gf]
            dsimp only
            cases hm0 : (m != 0)
            · rw [cond_false, show ((0 : Int) != 0) = false from rfl, cond_false, cond_false, of]
              cases ho0 : (o != 0)
              · rw [cond_false, cond_false, law_cross]
                unfold sQ26 GQ26 JQ169 JQ188
                simp only [law_cross, s_m_Abs, flt_self, cond_false]
                rfl
              · rfl
            · rfl
          · rfl
        · rfl
  simp only [hB] at e1
  refine Res_congr e1 ?_
  exact Res_cond _ (Res_cond _ (Res_cond _ (Res_e (by decide)) (Res_cond _ (Res_e (by decide)) (Res_n m (Res_n o (unit_res hN w0 w1 w2 w3))))) (Res_e (by decide))) (Res_e (by decide))
theorem nearest_ex {N : Nat} (hN : 1000 <= N) (a b c d p q r s : Fl) : ∃ x y z w n, ∀ κ, sQ104 N a b c d p q r s κ = κ x y z w n := by
  have e1 : ∀ κ, sQ104 N a b c d p q r s κ = sQ157 N a b c d p q r s (fun x n => cond (n != 0) (κ (some 0) (some 0) (some 0) (some 0) n) (cond (flt x (some 0)) (κ (fneg p) (fneg q) (fneg r) (fneg s) 0) (κ p q r s 0))) := fun _ => rfl
  simp only [law_Dot hN] at e1
  cases h1 : (allFin [a, b, c, d] && allFin [p, q, r, s]) with
  | false => exact ⟨_, _, _, _, 4, fun κ => by rw [e1, h1]; rfl⟩
  | true =>
    cases h2 : finF (dotQ a b c d p q r s) with
    | false => exact ⟨_, _, _, _, 5, fun κ => by rw [e1, h1, h2]; rfl⟩
    | true =>
      cases h3 : flt (dotQ a b c d p q r s) (some 0) with
      | true => exact ⟨_, _, _, _, 0, fun κ => by rw [e1, h1, h2, h3]; rfl⟩
      | false => exact ⟨_, _, _, _, 0, fun κ => by rw [e1, h1, h2, h3]; rfl⟩
theorem mix_res {N : Nat} (hN : 1000 <= N) (a b c d p q r s t : Fl) : Res (sQ71 N a b c d p q r s t) := by
  obtain ⟨x, y, z, w, n, f⟩ := nearest_ex hN a b c d p q r s
  have e1 : ∀ κ, sQ71 N a b c d p q r s t κ = GQ71 (N + 24) (sQ59 N) (sQ12 N) (sQ104 N) (sQ26 N) (sQ108 N) (sQ72 N) (sQ13 N) a b c d p q r s t κ := fun _ => rfl
  have e1' : ∀ κ, sQ71 N a b c d p q r s t κ = cond (allFin [a, b, c, d] && allFin [p, q, r, s]) (cond (finF t) (cond (n != 0) (κ (some 0) (some 0) (some 0) (some 0) n)
      (cond (!allFin [fadd (fmul (fsub (some 4607182418800017408) t) a) (fmul t x), fadd (fmul (fsub (some 4607182418800017408) t) b) (fmul t y), fadd (fmul (fsub (some 4607182418800017408) t) c) (fmul t z), fadd (fmul (fsub (some 4607182418800017408) t) d) (fmul t w)]) (κ (some 0) (some 0) (some 0) (some 0) 5)
        (sQ13 N (fadd (fmul (fsub (some 4607182418800017408) t) a) (fmul t x)) (fadd (fmul (fsub (some 4607182418800017408) t) b) (fmul t y)) (fadd (fmul (fsub (some 4607182418800017408) t) c) (fmul t z)) (fadd (fmul (fsub (some 4607182418800017408) t) d) (fmul t w)) κ))) (κ (some 0) (some 0) (some 0) (some 0) 4)) (κ (some 0) (some 0) (some 0) (some 0) 4) := by
    intro κ
    rw [e1]
    unfold GQ71
    rw [law_good2 hN]
    cases (allFin [a, b, c, d] && allFin [p, q, r, s])
    · rfl
    · rw [show ((!true) == false) = true from rfl, cond_true, cond_true, allFin_one hN]
      cases finF t
      · rfl
      · rw [Bool.not_true, cond_false, cond_true, f]
        unfold sQ26 GQ26 sQ108 GQ108
        cases (n != 0)
        · rw [cond_false, cond_false, law_told hN]
          cases allFin [fadd (fmul (fsub (some 4607182418800017408) t) a) (fmul t x), fadd (fmul (fsub (some 4607182418800017408) t) b) (fmul t y), fadd (fmul (fsub (some 4607182418800017408) t) c) (fmul t z), fadd (fmul (fsub (some 4607182418800017408) t) d) (fmul t w)]
          · rfl
          · rfl
        · rfl
  refine Res_congr e1' ?_
  exact Res_cond _ (Res_cond _ (Res_n n (Res_cond _ (Res_e (by decide)) (unit_res hN (FW_fadd _ _) (FW_fadd _ _) (FW_fadd _ _) (FW_fadd _ _)))) (Res_e (by decide))) (Res_e (by decide))
theorem law_MulQ {N : Nat} (hN : 1000 <= N) (a b c d p q r s : Fl) (κ : K4) : sQ123 N a b c d p q r s κ = cond (allFin [a, b, c, d] && allFin [p, q, r, s]) (mulK a b c d p q r s (fun x y z w _ => cond (!allFin [x, y, z, w]) (κ (some 0) (some 0) (some 0) (some 0) 5) (κ x y z w 0))) (κ (some 0) (some 0) (some 0) (some 0) 4) := by
  unfold sQ123 GQ123
  rw [law_good2 hN]
  cases (allFin [a, b, c, d] && allFin [p, q, r, s])
  · rfl
  · rw [Bool.not_true, cond_false, cond_true]
    unfold sQ164 GQ164 mulK
    dsimp only
    rw [law_told hN]
theorem join_res {N : Nat} (hN : 1000 <= N) (a b c d p q r s : Fl) : Res (sQ54 N a b c d p q r s) := by
  have e : ∀ κ, sQ54 N a b c d p q r s κ = sQ123 N a b c d p q r s (fun x y z w n => cond (n != 0) (κ (some 0) (some 0) (some 0) (some 0) n) (sQ13 N x y z w κ)) := fun _ => rfl
  simp only [law_MulQ hN] at e
  refine Res_congr e ?_
  refine Res_cond _ (Res_cond _ (Res_e (by decide)) ?_) (Res_e (by decide))
  exact unit_res hN (FW_fsub _ _) (FW_fsub _ _) (FW_fadd _ _) (FW_fadd _ _)
end Go.Proofs.YtnfgnjciliapaaaGreatDoor
end
section
namespace Go.Proofs.YtnfgnjciliapaaaGreatDoor
open Go Go.Mach Ieee
set_option linter.unusedVariables false

theorem Sc_Sp : Sc = Sp := by rw [Sp_eq]; have := Sc_ge; have := Sc_le; omega
theorem val_rv {x : Fl} (hx : finF x = true) : ((valE x : Int) : Rat) * Ue Sc = rv x := by
  obtain ⟨b, s, m, i, rfl, h⟩ := finF_num hx
  rw [valE_num h, rv_num h, Sc_Sp, Sp_eq]; rfl
theorem dot_rv {a b : List Fl} : ∀ n, FinL a n -> FinL b n -> ((dotVal a b (n + 1) : Int) : Rat) * Ue (Sc + Sc) = ((dotVal a b n : Int) : Rat) * Ue (Sc + Sc) + ((valE (a.getD n none) : Int) : Rat) * Ue Sc * (((valE (b.getD n none) : Int) : Rat) * Ue Sc) := by
  intro n ha hb
  show ((dotVal a b n + valE (a.getD n none) * valE (b.getD n none) : Int) : Rat) * _ = _
  rw [Rat.intCast_add, Rat.intCast_mul, Ue_add]
  generalize ((dotVal a b n : Int) : Rat) = d
  generalize ((valE (a.getD n none) : Int) : Rat) = p
  generalize ((valE (b.getD n none) : Int) : Rat) = q
  generalize Ue Sc = u
  grind
theorem dot0_rv (a b : List Fl) : ((dotVal a b 0 : Int) : Rat) * Ue (Sc + Sc) = 0 := by
  show ((0 : Int) : Rat) * _ = 0
  exact Rat.zero_mul _
theorem dot4_rv {a b c d : Fl} (h : FinL [a, b, c, d] 4) : ((dotVal [a, b, c, d] [a, b, c, d] 4 : Int) : Rat) * Ue (Sc + Sc) = rv a * rv a + rv b * rv b + rv c * rv c + rv d * rv d := by
  have f0 := val_rv (h 0 (by decide)).1
  have f1 := val_rv (h 1 (by decide)).1
  have f2 := val_rv (h 2 (by decide)).1
  have f3 := val_rv (h 3 (by decide)).1
  rw [dot_rv 3 (h.mono (by decide)) (h.mono (by decide)), dot_rv 2 (h.mono (by decide)) (h.mono (by decide)), dot_rv 1 (h.mono (by decide)) (h.mono (by decide)), dot_rv 0 (h.mono (by decide)) (h.mono (by decide)), dot0_rv, f0, f1, f2, f3, Rat.zero_add]
  rfl
theorem pE_rv {e : Int} {n : Nat} (he : e = -(n : Int)) (hn : n <= 1000) : ((pE e : Int) : Rat) * Ue (Sc + Sc) = Ue n := by
  unfold pE
  have h1 := Sc_ge
  have h2 : (e + ((Sc + Sc : Nat) : Int)).toNat = Sc + Sc - n := by omega
  rw [h2, Int.one_mul, Rat.intCast_pow]
  obtain ⟨m, hm⟩ : ∃ m, Sc + Sc = m + n := ⟨Sc + Sc - n, by omega⟩
  rw [hm, Nat.add_sub_cancel, Ue_add, <- Rat.mul_assoc]
  have h3 : ((2 : Int) : Rat) ^ m * Ue m = 1 := Ue_mul m
  rw [h3, Rat.one_mul]
theorem int_of_rat {x y : Int} {u : Rat} (hu : 0 < u) (h : ((x : Int) : Rat) * u <= ((y : Int) : Rat) * u) : x <= y := by
  rw [<- Rat.intCast_le_intCast]
  generalize ((x : Int) : Rat) = a at *
  generalize ((y : Int) : Rat) = b at *
  rcases (Rat.le_total : a <= b \/ b <= a) with k | k
  · exact k
  · by_cases e : a = b
    · rw [e]; exact Rat.le_refl
    · have := Rat.mul_pos (by grind : 0 < a - b) hu
      grind
theorem off_le {a b c d : Fl} (h : FinL [a, b, c, d] 4) {e : Int} {n : Nat} (he : e = -(n : Int)) (hn : n <= 1000) (g : Bd (rv a * rv a + rv b * rv b + rv c * rv c + rv d * rv d - 1) (Ue n)) : (((dotVal [a, b, c, d] [a, b, c, d] 4 - pE 0).natAbs : Nat) : Int) - pE e <= 0 := by
  have u0 := Ue_pos (Sc + Sc)
  have e1 := dot4_rv h
  have e2 : ((pE 0 : Int) : Rat) * Ue (Sc + Sc) = Ue 0 := pE_rv rfl (by decide)
  have e3 : ((pE e : Int) : Rat) * Ue (Sc + Sc) = Ue n := pE_rv he hn
  have e4 : Ue 0 = 1 := by
    have := Ue_mul 0
    rw [show (2 : Rat) ^ 0 = 1 by decide +kernel, Rat.one_mul] at this
    exact this
  rw [<- e1] at g
  rw [e4] at e2
  generalize dotVal [a, b, c, d] [a, b, c, d] 4 = D at *
  generalize pE 0 = P at *
  generalize pE e = Q at *
  obtain ⟨g1, g2⟩ := g
  have k1 : D - P <= Q := int_of_rat u0 (by
    rw [Rat.intCast_sub]
    generalize ((D : Int) : Rat) = x at *
    generalize ((P : Int) : Rat) = y at *
    generalize ((Q : Int) : Rat) = z at *
    have : (x - y) * Ue (Sc + Sc) = x * Ue (Sc + Sc) - y * Ue (Sc + Sc) := by grind
    rw [this, e2, e3]; exact g2)
  have k2 : -(D - P) <= Q := int_of_rat u0 (by
    rw [Rat.intCast_neg, Rat.intCast_sub]
    generalize ((D : Int) : Rat) = x at *
    generalize ((P : Int) : Rat) = y at *
    generalize ((Q : Int) : Rat) = z at *
    have : -(x - y) * Ue (Sc + Sc) = y * Ue (Sc + Sc) - x * Ue (Sc + Sc) := by grind
    rw [this, e2, e3]
    grind)
  omega
theorem Ue48 : Ue 48 = 1 / 281474976710656 := by
  have := Ue_mul 48
  rw [show (2 : Rat) ^ 48 = 281474976710656 by decide +kernel] at this
  grind
theorem Ue49 : Ue 49 = 1 / 562949953421312 := by
  have := Ue_mul 49
  rw [show (2 : Rat) ^ 49 = 562949953421312 by decide +kernel] at this
  grind
theorem sgn_le {z : Int} (h : z <= 0) : sgnI z <= 0 := by
  unfold sgnI
  split
  · decide
  · rw [if_pos (by omega)]; decide
theorem good_of {N : Nat} (hN : 1000 <= N) {a b c d : Fl} (h : U4 a b c d) (ha : FW a) (hb : FW b) (hc : FW c) (hd : FW d) (k : Bool -> Bool) : sQ92 N a b c d k = k true := by
  rw [lawQ92 hN h.1 ha hb hc hd]
  have hL := finL4 h.1 ha hb hc hd
  have : offE a b c d <= 0 := off_le hL (e := -48) (n := 48) rfl (by decide) (h.2.mono (by rw [Ue48]; grind))
  rw [decide_eq_true (sgn_le this)]
theorem law_unit {N : Nat} (hN : 1000 <= N) {a b c d : Fl} (h : U4 a b c d) (ha : FW a) (hb : FW b) (hc : FW c) (hd : FW d) (k : Bool -> Bool) : sQ4 N a b c d k = k true := by
  have hL := finL4 h.1 ha hb hc hd
  have hS := dotE_EV (a := [a, b, c, d]) (b := [a, b, c, d]) 4 hL hL
  have hX := dotE_Ex (a := [a, b, c, d]) (b := [a, b, c, d]) (n := 4) (Nat.le_of_ble_eq_true rfl) hL hL
  have hm : Ex 2200 4200 ((0 : Int), (-1 : Int)) := (ex_one (E := 2200) (B := 4200) (e := 0) (by omega) (by omega) (by omega)).neg
  have ev : dotVal [a, b, c, d] [a, b, c, d] 4 + -(pE 0) = dotVal [a, b, c, d] [a, b, c, d] 4 - pE 0 := (Int.sub_eq_add_neg).symm
  obtain ⟨hs, hsv⟩ := exAdd_Ex hX hm hS (pE_neg (e := 0) (by decide)) (C := 4200) (by rw [ev]; exact off_bits hL)
  rw [ev] at hsv
  have habs : ∀ (x : Int × Int) (hx : Ex 2200 4200 x) (κ : Bool -> List Int -> Bool), sQ57 N x.1 (decide (x.2 < 0)) (digs x.2.natAbs) κ = κ false (digs x.2.natAbs) := by
    intro x hx κ
    unfold sQ57 GQ57
    rw [law_AbsR _ _ (bits_short hN (by omega) hx.2.2)]
  have hab : Ex 2200 4200 ((exAdd (dotE [a, b, c, d] [a, b, c, d] 4) (0, -1)).1, (((exAdd (dotE [a, b, c, d] [a, b, c, d] 4) (0, -1)).2.natAbs : Nat) : Int)) := ⟨hs.1, hs.2.1, by show Bits _ (((exAdd (dotE [a, b, c, d] [a, b, c, d] 4) (0, -1)).2.natAbs : Nat) : Int).natAbs; rw [Int.natAbs_natCast]; exact hs.2.2⟩
  have hcv := EV.add hsv.abs (EV.neg (pE_EV (e := -49) (by decide)))
  have hC := fun κ => law_ExCmp hN hab (ex_one (E := 2200) (B := 4200) (e := -49) (by omega) (by omega) (by omega)) (by omega) κ
  simp only [abs_neg_one, Int.natAbs_natCast] at hC
  have hoff := off_le hL (e := -49) (n := 49) rfl (by decide) (h.2.mono (by rw [Ue49]; exact Rat.le_refl))
  unfold sQ4 GQ4
  rw [good_of hN h ha hb hc hd, show (true == true) = true from rfl, cond_true, law_Finite4 hN, h.1, show (true == true) = true from rfl, cond_true]
  unfold sQ118 GQ118 sQ128 GQ128
  dsimp only
  rw [law_DotE hN rfl (Nat.le_of_ble_eq_true rfl) hL hL]
  unfold exK
  unfold sQ144 GQ144 sQ143 GQ143
  dsimp only
  rw [new_minus hN]
  show sQ8 N (dotE [a, b, c, d] [a, b, c, d] 4).1 0 (decide ((dotE [a, b, c, d] [a, b, c, d] 4).2 < 0)) (digs (dotE [a, b, c, d] [a, b, c, d] 4).2.natAbs) true [1] _ _ _ = _
  have hadd := fun k0 k1 k2 h0 h1 => law_ExAdd hN hX hm (by omega) k0 k1 k2 h0 h1
  rw [show decide (((0 : Int), (-1 : Int)).2 < 0) = true from rfl, show ((0 : Int), (-1 : Int)).2.natAbs = 1 from rfl, digs_one] at hadd
  refine Eq.trans (hadd _ _ (fun e g l => sQ57 N e g l (fun cr nsr => sQ93 N 1 (fun cr_2 nsr_1 => sQ50 N e (-49) cr nsr cr_2 nsr_1 (fun nr_1 => k (decide (nr_1 <= 0)))))) ?_ rfl) ?_
  · unfold exK
    rw [show decide (((0 : Int), (-1 : Int)).2 < 0) = true from rfl, show ((0 : Int), (-1 : Int)).2.natAbs = 1 from rfl, digs_one]
  · unfold exK
    dsimp only
    rw [habs _ hs, new_one hN]
    have := hC (fun nr_1 => k (decide (nr_1 <= 0)))
    rw [show decide (((-49 : Int), (1 : Int)).2 < 0) = false from rfl, show ((-49 : Int), (1 : Int)).2.natAbs = 1 from rfl, digs_one] at this
    refine Eq.trans this ?_
    rw [hcv.sgn, (Int.sub_eq_add_neg).symm, decide_eq_true (sgn_le hoff)]

theorem self_alg {S : Rat} (h : Bd (S - 1) (1 / 562949953421312)) : 1 / 2 <= S * S := by
  obtain ⟨a, b⟩ := h
  have := Rat.mul_nonneg (by grind : 0 <= S - 9 / 10) (by grind : 0 <= S - 9 / 10)
  grind
theorem join_self {N : Nat} (hN : 1000 <= N) {a b c d : Fl} (h : U4 a b c d) : ∃ x y z w, (FW x /\ FW y /\ FW z /\ FW w) /\ U4 x y z w /\ ∀ κ, sQ54 N a b c d a b c d κ = κ x y z w 0 := by
  obtain ⟨f0, f1, f2, f3⟩ := fin4 h.1
  have z0 := sq_nonneg (rv a)
  have z1 := sq_nonneg (rv b)
  have z2 := sq_nonneg (rv c)
  have z3 := sq_nonneg (rv d)
  have hg : Bd (rv a * rv a + rv b * rv b + rv c * rv c + rv d * rv d - 1) (1 / 281474976710656) := h.2.mono (by grind)
  have b0 := unit_bd (a := rv a) (R := rv b * rv b + rv c * rv c + rv d * rv d) (by grind) rfl (by
    have e : rv a * rv a + (rv b * rv b + rv c * rv c + rv d * rv d) - 1 = rv a * rv a + rv b * rv b + rv c * rv c + rv d * rv d - 1 := by grind
    rw [e]; exact hg)
  have b1 := unit_bd (a := rv b) (R := rv a * rv a + rv c * rv c + rv d * rv d) (by grind) rfl (by
    have e : rv b * rv b + (rv a * rv a + rv c * rv c + rv d * rv d) - 1 = rv a * rv a + rv b * rv b + rv c * rv c + rv d * rv d - 1 := by grind
    rw [e]; exact hg)
  have b2 := unit_bd (a := rv c) (R := rv a * rv a + rv b * rv b + rv d * rv d) (by grind) rfl (by
    have e : rv c * rv c + (rv a * rv a + rv b * rv b + rv d * rv d) - 1 = rv a * rv a + rv b * rv b + rv c * rv c + rv d * rv d - 1 := by grind
    rw [e]; exact hg)
  have b3 := unit_bd (a := rv d) (R := rv a * rv a + rv b * rv b + rv c * rv c) (by grind) rfl (by
    have e : rv d * rv d + (rv a * rv a + rv b * rv b + rv c * rv c) - 1 = rv a * rv a + rv b * rv b + rv c * rv c + rv d * rv d - 1 := by grind
    rw [e]; exact hg)
  obtain ⟨m0, m1, m2, m3⟩ := qmul_near f0 f1 f2 f3 f0 f1 f2 f3 b0 b1 b2 b3 b0 b1 b2 b3
  have he := eulerR (rv a) (rv b) (rv c) (rv d) (rv a) (rv b) (rv c) (rv d)
  have hn := no_zero he (self_alg h.2) m0 m1 m2 m3
  have hall := allFin4' m0.1 m1.1 m2.1 m3.1
  obtain ⟨x, y, z, w, n, h1, h2, h3, h4⟩ := unit_full hN (FW_fsub (fsub (fsub (fmul a a) (fmul b b)) (fmul c c)) (fmul d d)) (FW_fsub (fadd (fadd (fmul a b) (fmul b a)) (fmul c d)) (fmul d c)) (FW_fadd (fadd (fsub (fmul a c) (fmul b d)) (fmul c a)) (fmul d b)) (FW_fadd (fsub (fadd (fmul a d) (fmul b c)) (fmul c b)) (fmul d a))
  have hn0 := h4 hall hn
  subst hn0
  refine ⟨x, y, z, w, h1, h2 rfl, fun κ => ?_⟩
  have e : sQ54 N a b c d a b c d κ = sQ123 N a b c d a b c d (fun x y z w n => cond (n != 0) (κ (some 0) (some 0) (some 0) (some 0) n) (sQ13 N x y z w κ)) := rfl
  rw [e, law_MulQ hN, h.1]
  unfold mulK
  dsimp only
  rw [hall, Bool.not_true, cond_false, show ((0 : Int) != 0) = false from rfl, cond_false, show (true && true) = true from rfl, cond_true, h3]
end Go.Proofs.YtnfgnjciliapaaaGreatDoor
end
section
namespace Go.Proofs.YtnfgnjciliapaaaGreatDoor
open Go Go.Mach Ieee
set_option linter.unusedVariables false

theorem eq00 : ((0 : Int) == 0) = true := rfl
theorem step_res {N : Nat} (hN : 1000 <= N) {f : K4 -> Bool} (hf : Res f) (T : Bool) (k : Bool -> Bool) : f (fun x y z w n => cond ((n == 0) == true) (sQ4 N x y z w (fun cr => cond (!cr) (k false) T)) T) = T := by
  obtain ⟨x, y, z, w, n, ⟨w0, w1, w2, w3⟩, h2, h3⟩ := hf
  rw [h3]
  by_cases hn : n = 0
  · subst hn
    rw [show (((0 : Int) == 0) == true) = true from rfl, cond_true, law_unit hN (h2 rfl) w0 w1 w2 w3]; rfl
  · have : ((n == 0) == true) = false := by
      have : (n == 0) = false := beq_eq_false_iff_ne.2 hn
      rw [this]; rfl
    rw [this, cond_false]
theorem step_self {N : Nat} (hN : 1000 <= N) {a b c d : Fl} (h : U4 a b c d) (g : Fl -> Fl -> Fl -> Fl -> Bool) (T : Bool) (k : Bool -> Bool) (hg : ∀ x y z w, (FW x /\ FW y /\ FW z /\ FW w) -> U4 x y z w -> g x y z w = T) :
    sQ54 N a b c d a b c d (fun x y z w n => cond ((n != 0) == false) (sQ4 N x y z w (fun cr => cond (!cr) (k false) (g x y z w))) (k false)) = T := by
  obtain ⟨x, y, z, w, ⟨w0, w1, w2, w3⟩, h2, h3⟩ := join_self hN h
  rw [h3, show (((0 : Int) != 0) == false) = true from rfl, cond_true, law_unit hN h2 w0 w1 w2 w3, <- hg x y z w ⟨w0, w1, w2, w3⟩ h2]; rfl
theorem law_QuatStays {N : Nat} (hN : 1000 <= N) {x0 x1 x2 x3 y0 y1 y2 y3 u0 u1 u2 v0 v1 v2 r c t : Int} {m : List Int} (h0 : x0.toNat < 18446744073709551616) (h1 : x1.toNat < 18446744073709551616) (h2 : x2.toNat < 18446744073709551616) (h3 : x3.toNat < 18446744073709551616)
    (g0 : u0.toNat < 18446744073709551616) (g1 : u1.toNat < 18446744073709551616) (g2 : u2.toNat < 18446744073709551616) (p0 : v0.toNat < 18446744073709551616) (p1 : v1.toNat < 18446744073709551616) (p2 : v2.toNat < 18446744073709551616) (hl : Small N m.length) (k : Bool -> Bool) :
    sQ43 N x0 x1 x2 x3 y0 y1 y2 y3 u0 u1 u2 v0 v1 v2 r c m t k = k true := by
  have hv : ∀ (x y z w : Int) (k : Fl -> Fl -> Fl -> Fl -> Bool), sQ5 N x y z w k = k (canon x.toNat) (canon y.toNat) (canon z.toNat) (canon w.toNat) := fun _ _ _ _ _ => rfl
  have hu : ∀ (x y z : Int) (k : Fl -> Fl -> Fl -> Bool), sQ7 N x y z k = k (canon x.toNat) (canon y.toNat) (canon z.toNat) := fun _ _ _ _ => rfl
  have hf : ∀ (x : Int) (k : Fl -> Bool), sQ11 N x k = k (canon x.toNat) := fun _ _ => rfl
  have hm : ∀ k : List Fl -> Bool, sQ10 N r c m k = k (of64 m) := fun k => law_Of64 m hl k
  have hl' : Small N (of64 m).length := by rw [of64_length]; exact hl
  have w0 := canon_FW h0
  have w1 := canon_FW h1
  have w2 := canon_FW h2
  have w3 := canon_FW h3
  have e0 := canon_FW g0
  have e1 := canon_FW g1
  have e2 := canon_FW g2
  have q0 := canon_FW p0
  have q1 := canon_FW p1
  have q2 := canon_FW p2
  unfold sQ43 GQ43
  rw [law_awake hN, Bool.not_true, cond_false, hv, hv]
  refine (step_res hN (unit_res hN w0 w1 w2 w3) _ k).trans ?_
  unfold JQ158
  have key : ∀ T : Bool, T = k true -> ∀ {f : K4 -> Bool}, Res f -> f (fun x y z w n => cond (n == 0) (sQ4 N x y z w (fun cr => cond (!cr) (k false) (sQ54 N x y z w x y z w (fun x y z w n => cond ((n != 0) == false) (sQ4 N x y z w (fun cr => cond (!cr) (k false) (sQ54 N x y z w x y z w (fun x y z w n => cond ((n != 0) == false) (sQ4 N x y z w (fun cr => cond (!cr) (k false) (sQ54 N x y z w x y z w (fun x y z w n => cond ((n != 0) == false) (sQ4 N x y z w (fun cr => cond (!cr) (k false) (sQ54 N x y z w x y z w (fun x y z w n => cond ((n != 0) == false) (sQ4 N x y z w (fun cr => cond (!cr) (k false) T)) (k false))))) (k false))))) (k false))))) (k false))))) T) = k true := by
    intro T hT f hf
    obtain ⟨x, y, z, w, n, ⟨w0, w1, w2, w3⟩, h2, h3⟩ := hf
    rw [h3]
    by_cases hn : n = 0
    · subst hn
      have hU := h2 rfl
      rw [eq00, cond_true, law_unit hN hU w0 w1 w2 w3, Bool.not_true, cond_false]
      refine (step_self hN hU _ T k fun x y z w _ hU => ?_).trans hT
      refine step_self hN hU _ T k fun x y z w _ hU => ?_
      refine step_self hN hU _ T k fun x y z w _ hU => ?_
      exact step_self hN hU (fun _ _ _ _ => T) T k fun x y z w _ hU => rfl
    · have : (n == 0) = false := beq_eq_false_iff_ne.2 hn
      rw [this, cond_false, hT]
  refine key _ ?_ (join_res hN _ _ _ _ _ _ _ _)
  unfold JQ159
  rw [hm]
  refine (step_res hN (from_res hN r c (of64 m) hl') _ k).trans ?_
  unfold JQ160
  rw [hu]
  refine (step_res hN (cayley_res hN _ _ _) _ k).trans ?_
  unfold JQ161
  rw [hu, hu]
  refine (step_res hN (between_res hN e0 e1 e2 q0 q1 q2) _ k).trans ?_
  unfold JQ172
  rw [hf]
  obtain ⟨x, y, z, w, n, ⟨a0, a1, a2, a3⟩, b2, b3⟩ := mix_res hN (canon x0.toNat) (canon x1.toNat) (canon x2.toNat) (canon x3.toNat) (canon y0.toNat) (canon y1.toNat) (canon y2.toNat) (canon y3.toNat) (canon t.toNat)
  rw [b3]
  by_cases hn : n = 0
  · subst hn
    rw [show (((0 : Int) != 0) == false) = true from rfl, cond_true, law_unit hN (b2 rfl) a0 a1 a2 a3]
  · have : ((n != 0) == false) = false := by
      have : (n != 0) = true := bne_iff_ne.2 hn
      rw [this]; rfl
    rw [this, cond_false]
end Go.Proofs.YtnfgnjciliapaaaGreatDoor
end
