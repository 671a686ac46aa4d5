/-
  SCALED ROWS: behind the greatest magnitude's power of two no number is beyond 2, and the sum of the squares is not below 1.
  Conditions: at most 48 words, all finite, not all nought.
-/
import Derived.Test.YtccocdgimamdhaaGreatDoorR5
import Derived.Test.YtccocdgimamdhaaGreatDoorFlA
namespace Go.Proofs.YtccocdgimamdhaaGreatDoor
open Go Go.Mach Ieee
set_option linter.unusedVariables false

def GE1 (x : Fl) : Prop := ∃ b, x = some b /\ W64 b /\ (Ieee.double.read b = .infinity false \/ ∃ m i, Ieee.double.read b = .number false m i /\ 4503599627370496 <= m /\ m < 9007199254740992 /\ -52 <= i)
theorem GE1_nearest {m : Nat} (h0 : m ≠ 0) {i : Int} (h : 0 <= i + m.log2) : GE1 (some (Ieee.double.nearest false m i)) := by
  obtain ⟨r, hr, h1, h2⟩ := nearest_ge false h0 (i := i) (E := 1023) (by decide) (by decide) (by omega)
  refine ⟨_, rfl, nearest_W64 _ _ _, ?_⟩
  rw [hr]
  rcases read_ge false (E := 1023) (by decide) h1 h2 with e | ⟨m', i', e, h3, h4, h5⟩
  · exact .inl e
  · exact .inr ⟨m', i', e, h3, h4, by omega⟩
theorem GE1_inf : GE1 (some (Ieee.double.write (.infinity false))) := by
  have : Ieee.double.write (.infinity false) = Ieee.double.word false 9218868437227405312 := by rw [<- infRung_d]; rfl
  rw [this]
  exact ⟨_, rfl, word_W64 false (by decide), .inl (by decide)⟩
theorem GE1_fadd {x y : Fl} (hx : GE1 x) (hy : NN y) : GE1 (fadd x y) := by
  obtain ⟨a, rfl, -, ha⟩ := hx
  obtain ⟨b, rfl, -, hb⟩ := hy
  show GE1 (((Ieee.double.read a).sum (Ieee.double.read b)).map Ieee.double.write)
  rcases ha with ha | ⟨m, i, ha, hm, -, hi⟩ <;> rcases hb with ⟨n, j, hb⟩ | hb <;> rw [ha, hb]
  · exact GE1_inf
  · exact GE1_inf
  · simp only [Datum.sum, Option.map_some]
    have h1 : signed false m (i - min i j).toNat = ((m <<< (i - min i j).toNat : Nat) : Int) := rfl
    have h2 : signed false n (j - min i j).toNat = ((n <<< (j - min i j).toNat : Nat) : Int) := rfl
    rw [h1, h2]
    have hge : 2 ^ (52 + (i - min i j).toNat) <= m <<< (i - min i j).toNat := by
      rw [Nat.shiftLeft_eq, Nat.pow_add]
      exact Nat.mul_le_mul_right _ (by simpa using hm)
    have hpos : 0 < 2 ^ (52 + (i - min i j).toNat) := Nat.two_pow_pos _
    generalize hp : m <<< (i - min i j).toNat = p at *
    generalize n <<< (j - min i j).toNat = q
    rw [if_neg (by omega), decide_eq_false (by omega), write_number]
    have hab : ((p : Int) + (q : Int)).natAbs = p + q := by omega
    rw [hab]
    refine GE1_nearest (by omega) ?_
    have hl : 52 + (i - min i j).toNat <= (p + q).log2 := (Nat.le_log2 (by omega)).2 (by omega)
    omega
  · exact GE1_inf
theorem GE1_fadd' {x y : Fl} (hx : NN x) (hy : GE1 y) : GE1 (fadd x y) := by rw [fadd_comm]; exact GE1_fadd hy hx
def Dv (x : Fl) : Prop := ∃ b, x = some b /\ (Ieee.double.read b = .infinity false \/ ∃ m i, Ieee.double.read b = .number false m i /\ m ≠ 0)
theorem Dv_fsqrt {x : Fl} (hx : GE1 x) : Dv (fsqrt x) := by
  obtain ⟨a, rfl, -, ha⟩ := hx
  show Dv (((Ieee.double.read a).root (Ieee.double.fractionBits + 2)).map Ieee.double.write)
  rcases ha with ha | ⟨m, i, ha, hm, hm2, hi⟩ <;> rw [ha]
  · obtain ⟨b, e, -, h⟩ := GE1_inf
    refine ⟨b, e, ?_⟩
    rcases h with h | ⟨m, i, h, h2, -⟩
    · exact .inl h
    · exact .inr ⟨m, i, h, by omega⟩
  · simp only [Datum.root, Bool.false_eq_true, if_false]
    rw [if_neg (by omega)]
    have hf : Ieee.double.fractionBits = 52 := rfl
    have hl : m.log2 = 52 := log2_normal ⟨hm, hm2⟩
    rw [hf, hl]
    generalize hmore : 2 * (52 + 2) - 52 + ((i - ((2 * (52 + 2) - 52 : Nat) : Int)) % 2).toNat = more
    have hmore2 : more <= 57 := by omega
    have hn : m <<< more ≠ 0 := by
      rw [Nat.shiftLeft_eq]
      exact Nat.mul_ne_zero (by omega) (Nat.pos_iff_ne_zero.1 (Nat.two_pow_pos _))
    generalize m <<< more = n at hn
    generalize Datum.rootFrom n (n.log2 / 2 + 1) 0 = w
    rw [Option.map_some, write_number]
    have h0 : 2 * w + (w * w != n).toNat ≠ 0 := by
      by_cases hw : w = 0
      · subst hw
        have : (0 * 0 != n) = true := by rw [bne_iff_ne]; omega
        rw [this]; decide
      · omega
    generalize 2 * w + (w * w != n).toNat = p at h0
    have hE : ((900 : Nat) : Int) <= (i - (more : Int)) / 2 - 1 + p.log2 + 1023 := by omega
    obtain ⟨r, hr, h1, h2⟩ := nearest_ge false h0 (E := 900) (by decide) (by decide) hE
    refine ⟨_, rfl, ?_⟩
    rw [hr]
    rcases read_ge false (E := 900) (by decide) h1 h2 with e | ⟨m', i', e, h3, -⟩
    · exact .inl e
    · exact .inr ⟨m', i', e, by omega⟩
theorem log2_vl {m m' : Nat} {i i' : Int} (h0 : m' ≠ 0) (h : m' * 2 ^ (i' + 1074).toNat <= m * 2 ^ (i + 1074).toNat) (hi : -1074 <= i) (hi' : -1074 <= i') : i' + m'.log2 <= i + m.log2 := by
  have h1 := Nat.log2_self_le h0
  have h2 : m < 2 ^ (m.log2 + 1) := Nat.lt_log2_self
  have h3 : 2 ^ (m'.log2 + (i' + 1074).toNat) < 2 ^ (m.log2 + 1 + (i + 1074).toNat) := by
    rw [Nat.pow_add, Nat.pow_add]
    exact Nat.lt_of_le_of_lt (Nat.mul_le_mul_right _ h1) (Nat.lt_of_le_of_lt h (Nat.mul_lt_mul_of_pos_right h2 (Nat.two_pow_pos _)))
  have h4 := (Nat.pow_lt_pow_iff_right (by decide : 1 < 2)).1 h3
  omega
theorem vl_abs {x : Fl} (hx : finF x = true) (hw : FW x) {b : Nat} {s : Bool} {m : Nat} {i : Int} (e : x = some b) (h : Ieee.double.read b = .number s m i) : vl (absF x) = ((m * 2 ^ (i + 1074).toNat : Nat) : Int) := by
  subst e
  obtain ⟨c, hc, hcw, hcr⟩ := absF_num (hw b rfl) h
  rw [hc, vl_num hcr, <- Nat.shiftLeft_eq]; rfl
theorem most_vl {xs : List Fl} (h : FinW xs) : ∀ n, n <= xs.length -> (∀ i, i < n -> vl (absF (xs.getD i none)) <= vl (mostF xs n)) /\ (mostF xs n = some 0 \/ ∃ i, i < n /\ mostF xs n = absF (xs.getD i none)) := by
  intro n
  induction n with
  | zero => intro _; exact ⟨fun i hi => absurd hi (Nat.not_lt_zero _), .inl rfl⟩
  | succ n ih =>
    intro hn
    obtain ⟨h1, h2⟩ := ih (by omega)
    obtain ⟨h3, h4⟩ := most_fin h n (by omega)
    obtain ⟨h5, h6⟩ := h n (by omega)
    obtain ⟨-, h8, h9⟩ := fmm_vl h3 (absF_fin h5 h6)
    refine ⟨fun i hi => ?_, ?_⟩
    · show _ <= vl (fmm true (mostF xs n) (absF (xs.getD n none)))
      rw [h8]
      by_cases hin : i = n
      · subst hin; omega
      · have := h1 i (by omega); omega
    · show fmm true (mostF xs n) (absF (xs.getD n none)) = _ \/ ∃ i, _ /\ fmm true (mostF xs n) (absF (xs.getD n none)) = _
      rcases h9 with e | e
      · rw [e]
        rcases h2 with e2 | ⟨i, hi, e2⟩
        · exact .inl e2
        · exact .inr ⟨i, by omega, e2⟩
      · exact .inr ⟨n, by omega, e⟩
theorem scl_facts {N : Nat} {xs : List Fl} (hf : FinW xs) (h0 : feq (mostF xs xs.length) (some 0) = false) :
    ∃ fr e, (∀ κ : Fl -> Int -> Bool, sj136 N (mostF xs xs.length) κ = κ fr e) /\ -1200 <= e /\ e <= 1200 /\
      (∀ i, i < xs.length -> finF (sclF (xs.getD i none) (1 - e)) = true) /\
      ∃ j, j < xs.length /\ GE1 (fmul (sclF (xs.getD j none) (1 - e)) (sclF (xs.getD j none) (1 - e))) := by
  obtain ⟨hm, hmw⟩ := most_fin hf xs.length (Nat.le_refl _)
  obtain ⟨hle, hone⟩ := most_vl hf xs.length (Nat.le_refl _)
  obtain ⟨fr, e, he, he1, he2, he3⟩ := law_frexp N hm hmw h0
  obtain ⟨b, s, m, i, hb, hr⟩ := finF_num hm
  have hei := he3 b s m i hb hr
  have hm0 : m ≠ 0 := by
    rw [hb, feq_zero hr] at h0
    exact of_decide_eq_false h0
  have hgi := place_ge hr
  rcases hone with e0 | ⟨j, hj, ej⟩
  · rw [e0] at h0
    exact absurd h0 (by decide)
  obtain ⟨hjf, hjw⟩ := hf j hj
  obtain ⟨bj, sj, mj, ij, hbj, hrj⟩ := finF_num hjf
  have hsame : mj = m /\ ij = i := by
    obtain ⟨c, hc, hcw, hcr⟩ := absF_num (hjw bj hbj) hrj
    rw [hbj, hc] at ej
    rw [ej] at hb
    cases hb
    rw [hcr] at hr
    cases hr
    exact ⟨rfl, rfl⟩
  obtain ⟨rfl, rfl⟩ := hsame
  have hvm : vl (mostF xs xs.length) = ((mj * 2 ^ (ij + 1074).toNat : Nat) : Int) := by
    rw [ej]; exact vl_abs hjf hjw hbj hrj
  refine ⟨fr, e, he, he1, he2, fun l hl => ?_, j, hj, ?_⟩
  · obtain ⟨hlf, hlw⟩ := hf l hl
    obtain ⟨bl, sl, ml, il, hbl, hrl⟩ := finF_num hlf
    rw [hbl, sclF_num hrl]
    have hb2 : il + (1 - e) + ml.log2 <= 1000 := by
      by_cases hz : ml = 0
      · obtain ⟨-, -, hh⟩ := read_number hrl
        subst hz
        have : (0 : Nat).log2 = 0 := by decide
        omega
      · have hv := hle l hl
        rw [hvm, vl_abs hlf hlw hbl hrl] at hv
        have := log2_vl hz (Int.ofNat_le.1 hv) hgi (place_ge hrl)
        omega
    obtain ⟨r, hr2, hr3⟩ := nearest_fin sl (m := ml) (i := il + (1 - e)) hb2
    rw [hr2]
    obtain ⟨m', i', e'⟩ := read_fin sl hr3
    exact finF_of e'
  · rw [hbj, sclF_num hrj]
    have hpm := place_le hrj
    obtain ⟨h1, h2⟩ := lift52 hm0 hpm.2
    have e2 : Ieee.double.nearest sj mj (ij + (1 - e)) = Ieee.double.nearest sj (mj <<< (52 - mj.log2)) (-52) := by
      rw [<- nearest_lift sj mj (ij + (1 - e))]
      congr 1
      have : mj.log2 <= 52 := by
        have := (Nat.log2_lt hm0).2 (by simpa using hpm.2 : mj < 2 ^ 53)
        omega
      omega
    have e3 : Ieee.double.nearest sj (mj <<< (52 - mj.log2)) (-52) = Ieee.double.word sj (((-52 : Int) + 1075).toNat * 4503599627370496 + (mj <<< (52 - mj.log2) - 4503599627370496)) :=
      write_read (word_W64 sj (by omega)) (read_normal sj _ _ ⟨h1, h2⟩ (by omega))
    rw [e2, e3, fmul_w, read_normal sj _ _ ⟨h1, h2⟩ (by omega)]
    generalize mj <<< (52 - mj.log2) = M at h1 h2
    have : (Datum.number sj M (-52)).product (.number sj M (-52)) = some (.number (sj ^^ sj) (M * M) (-52 + -52)) := rfl
    rw [this, Bool.xor_self, Option.map_some, write_number]
    have hMM : 4503599627370496 * 4503599627370496 <= M * M := Nat.mul_le_mul h1 h1
    refine GE1_nearest (by omega) ?_
    have hl : 104 <= (M * M).log2 := (Nat.le_log2 (by omega)).2 (Nat.le_trans (by decide) hMM)
    omega

end Go.Proofs.YtccocdgimamdhaaGreatDoor
