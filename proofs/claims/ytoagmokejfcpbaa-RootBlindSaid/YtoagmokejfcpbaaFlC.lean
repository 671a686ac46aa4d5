/-
  FLOATS, third part: noughts and one, up to the NaN's payload.
  Conditions: none.
-/
import Derived.Test.YtoagmokejfcpbaaFlB
namespace Go.Mach
open Ieee

/-- a word -/
def FW (x : Fl) : Prop := ∀ b, x = some b → W64 b
/-- a nought of either sign -/
def isZ (x : Fl) : Prop := ∃ s, x = some (Ieee.double.word s 0)
theorem word0 : Ieee.double.word false 0 = 0 := by decide
theorem isZ_zero : isZ (some 0) := ⟨false, by decide⟩
theorem finF_num {x : Fl} (h : finF x = true) : ∃ b s m i, x = some b ∧ Ieee.double.read b = .number s m i := by
  cases x with
  | none => cases h
  | some b =>
    simp only [finF] at h
    cases e : Ieee.double.read b with
    | number s m i => exact ⟨b, s, m, i, rfl, e⟩
    | infinity s => rw [e] at h; cases h
    | nan s t => rw [e] at h; cases h
theorem finF_of {b : Nat} {s : Bool} {m : Nat} {i : Int} (h : Ieee.double.read b = .number s m i) : finF (some b) = true := by simp [finF, h, isNum]
theorem fmul_zero {x : Fl} (h : finF x = true) : isZ (fmul x (some 0)) := by
  obtain ⟨b, s, m, i, rfl, hb⟩ := finF_num h
  refine ⟨s ^^ false, ?_⟩
  have := mul_zero_w (t := false) hb
  rwa [word0] at this
theorem zero_fmul {x : Fl} (h : finF x = true) : isZ (fmul (some 0) x) := by
  obtain ⟨b, s, m, i, rfl, hb⟩ := finF_num h
  refine ⟨false ^^ s, ?_⟩
  have := zero_mul_w (t := false) hb
  rwa [word0] at this
theorem zero_fadd {z : Fl} (h : isZ z) : fadd (some 0) z = some 0 := by
  obtain ⟨s, rfl⟩ := h
  have := add_zeros_w false s
  rwa [word0, Bool.false_and, word0] at this
theorem isZ_fin {z : Fl} (h : isZ z) : finF z = true := by
  obtain ⟨s, rfl⟩ := h
  exact finF_of (read_word0 s)
/-- is it above nought? -/
theorem pos_num {x : Fl} (h : finF x = true) (hp : fgt x (some 0) = true) : ∃ b m i, x = some b ∧ Ieee.double.read b = .number false m i ∧ m ≠ 0 := by
  obtain ⟨b, s, m, i, rfl, hb⟩ := finF_num h
  unfold fgt ford Format.order at hp
  simp only [hb, read_zero, Datum.order, signed_zero] at hp
  refine ⟨b, m, i, rfl, ?_⟩
  have hgt : compare (signed s m (i - min i (-1074)).toNat) 0 = .gt := by simpa using hp
  have hlt : 0 < signed s m (i - min i (-1074)).toNat := by
    rw [Int.compare_eq_gt] at hgt; exact hgt
  cases s
  · refine ⟨hb, fun hm => ?_⟩
    subst hm
    rw [signed_zero] at hlt; omega
  · exfalso
    have h1 : signed true m (i - min i (-1074)).toNat = -((m <<< (i - min i (-1074)).toNat : Nat) : Int) := rfl
    rw [h1] at hlt
    generalize m <<< (i - min i (-1074)).toNat = q at hlt
    omega
theorem fadd_zero_pos {x z : Fl} (hw : FW x) (h : finF x = true) (hp : fgt x (some 0) = true) (hz : isZ z) : fadd x z = x := by
  obtain ⟨b, m, i, rfl, hb, hm⟩ := pos_num h hp
  obtain ⟨s, rfl⟩ := hz
  exact add_zero_w (hw b rfl) hb hm
theorem fadd_isZ_feq {x z : Fl} (hw : FW x) (h : finF x = true) (hz : isZ z) : feq (fadd x z) x = true := by
  obtain ⟨b, s, m, i, rfl, hb⟩ := finF_num h
  obtain ⟨t, rfl⟩ := hz
  by_cases hm : m = 0
  · subst hm
    rw [mag0_word (hw b rfl) hb]
    have e : fadd (some (Ieee.double.word s 0)) (some (Ieee.double.word t 0)) = some (Ieee.double.word (s && t) 0) := add_zeros_w s t
    rw [e]
    cases s <;> cases t <;> decide
  · have e : fadd (some b) (some (Ieee.double.word t 0)) = some b := add_zero_w (hw b rfl) hb hm
    rw [e]
    simp only [feq, ford, Format.order, hb, Datum.order]
    simp [compare, compareOfLessAndEq]
theorem fin_of_fmul {x y : Fl} (h : finF (fmul x y) = true) : ∃ b, fmul x y = some b := by
  obtain ⟨b, _, _, _, e, _⟩ := finF_num h
  exact ⟨b, e⟩
theorem fadd_isZ_fin {x z : Fl} (hw : FW x) (h : finF x = true) (hz : isZ z) : finF (fadd x z) = true := by
  obtain ⟨b, s, m, i, rfl, hb⟩ := finF_num h
  obtain ⟨t, rfl⟩ := hz
  by_cases hm : m = 0
  · subst hm
    rw [mag0_word (hw b rfl) hb]
    have e : fadd (some (Ieee.double.word s 0)) (some (Ieee.double.word t 0)) = some (Ieee.double.word (s && t) 0) := add_zeros_w s t
    rw [e]
    exact isZ_fin ⟨_, rfl⟩
  · have e : fadd (some b) (some (Ieee.double.word t 0)) = some b := add_zero_w (hw b rfl) hb hm
    rw [e]; exact finF_of hb
theorem fsub_zero {x : Fl} (hw : FW x) (h : finF x = true) : fsub x (some 0) = x := by
  obtain ⟨b, s, m, i, rfl, hb⟩ := finF_num h
  exact sub_zero_w (hw b rfl) hb
theorem one_fmul {x : Fl} (hw : FW x) (h : finF x = true) : fmul (some 4607182418800017408) x = x := by
  obtain ⟨b, s, m, i, rfl, hb⟩ := finF_num h
  exact one_mul_w (hw b rfl) hb
theorem fdiv_self {p : Fl} (h : finF (fdiv p p) = true) : fdiv p p = some 4607182418800017408 ∧ finF p = true := by
  cases p with
  | none => cases h
  | some w =>
    cases e : Ieee.double.read w with
    | number s m i =>
      by_cases hm : m = 0
      · subst hm
        simp [fdiv, fbin, Format.div, e, Datum.quotient, finF] at h
      · exact ⟨div_self_w e hm, finF_of e⟩
    | infinity s => simp [fdiv, fbin, Format.div, e, Datum.quotient, finF] at h
    | nan s t => simp [fdiv, fbin, Format.div, e, Datum.quotient, finF] at h
theorem zero_fdiv_sq {p : Fl} (hp : finF p = true) (h1 : finF (fmul p p) = true) (h2 : finF (fdiv (some 0) (fmul p p)) = true) : fdiv (some 0) (fmul p p) = some 0 := by
  obtain ⟨w, s, m, i, rfl, hw⟩ := finF_num hp
  obtain ⟨r, s', m', i', e, hr⟩ := finF_num h1
  have hs := mul_self_sign hw e hr
  subst hs
  rw [e] at h2 ⊢
  by_cases hm : m' = 0
  · subst hm
    simp [fdiv, fbin, Format.div, hr, read_zero, Datum.quotient, finF] at h2
  · have := zero_div_w hr hm
    rwa [word0] at this
theorem zero_fdiv_pos {r : Fl} (h : finF r = true) (hp : fgt r (some 0) = true) : fdiv (some 0) r = some 0 := by
  obtain ⟨b, m, i, rfl, hb, hm⟩ := pos_num h hp
  have := zero_div_w hb hm
  rwa [word0] at this
theorem feq_refl {x : Fl} (h : finF x = true) : feq x x = true := by
  obtain ⟨b, s, m, i, rfl, hb⟩ := finF_num h
  simp only [feq, ford, Format.order, hb, Datum.order]
  simp [compare, compareOfLessAndEq]
theorem cn_zero {x : Fl} (h : cn x = cn (some 0)) : x = some 0 := by
  have h0 : cn (some 0) = some 0 := by decide
  rw [h0] at h
  cases x with
  | none => cases h
  | some b =>
    have cf : cn (some b) = if isNaN b = true then none else some b := rfl
    rw [cf] at h
    split at h
    · cases h
    · exact h
theorem canon_FW {n : Nat} (h : W64 n) : FW (canon n) := by
  intro b hb
  unfold canon at hb
  cases hn : isNaN n with
  | true => rw [hn] at hb; cases hb
  | false => rw [hn] at hb; cases hb; exact h
/-- above nought and no number: more than the greatest -/
theorem inf_abs {x : Fl} (h : finF x = false) (hp : fgt x (some 0) = true) : fgt (absF x) (some 9218868437227405311) = true := by
  cases x with
  | none => cases hp
  | some b =>
    cases e : Ieee.double.read b with
    | number s m i => rw [finF_of e] at h; cases h
    | nan s t => simp [fgt, ford, Format.order, e, Datum.order] at hp
    | infinity s =>
      have hm : b % 9223372036854775808 = 9218868437227405312 := by
        unfold Format.read at e
        simp only [signWeight_d, binade_d, infRung_d] at e
        split at e
        · cases e
        · split at e
          · cases e
          · split at e
            · assumption
            · cases e
      unfold absF
      simp only [hm]
      decide

end Go.Mach
