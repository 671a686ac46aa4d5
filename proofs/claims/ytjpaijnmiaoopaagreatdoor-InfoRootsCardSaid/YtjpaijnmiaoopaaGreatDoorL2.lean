/-
  PURE: laws of the seat's functions, taken over from another seat of mine.
  Conditions: none.
-/
import Derived.Test.YtjpaijnmiaoopaaGreatDoorL1
namespace Go.Proofs.YtjpaijnmiaoopaaGreatDoor
open Go Go.Mach Ieee
set_option linter.unusedVariables false
set_option linter.unusedVariables false
set_option linter.unusedVariables false
set_option linter.unusedVariables false
set_option linter.unusedVariables false
set_option linter.unusedVariables false
set_option linter.unusedVariables false
set_option linter.unusedVariables false
set_option linter.unusedVariables false
def odd2 : Nat -> Nat -> Int -> Nat × Int
 | 0, m, e => (m, e)
 | f + 1, m, e => if m % 2 = 0 then odd2 f (m / 2) (e + 1) else (m, e)
theorem odd2_facts : ∀ f m e, m ≠ 0 -> m < 2 ^ f -> e <= (odd2 f m e).2 /\ (odd2 f m e).2 <= e + f /\ (odd2 f m e).1 * 2 ^ ((odd2 f m e).2 - e).toNat = m /\ (odd2 f m e).1 <= m
 | 0, m, e, h0, h => by simp at h; omega
 | f + 1, m, e, h0, h => by
  unfold odd2
  split
  ·rename_i hm
   obtain ⟨h1, h2, h3, h4⟩ := odd2_facts f (m / 2) (e + 1) (by omega) (by rw [Nat.pow_succ] at h; omega)
   refine ⟨by omega, by omega, ?_, by omega⟩
   have : ((odd2 f (m / 2) (e + 1)).2 - e).toNat = ((odd2 f (m / 2) (e + 1)).2 - (e + 1)).toNat + 1 := by omega
   rw [this, Nat.pow_succ, <- Nat.mul_assoc, h3]; omega
  ·refine ⟨by omega, by omega, ?_, Nat.le_refl _⟩
   rw [Int.sub_self]; simp
theorem law_odd {N : Nat} (hN : 1000 <= N) {m : Nat} {e : Int} (h0 : m ≠ 0) (hm : m < 2 ^ 64) (he1 : -2000 <= e) (he2 : e <= 2000) (k : Int -> Int -> Bool) :
  sQ70 N m e k = k ((odd2 64 m e).1 : Int) (odd2 64 m e).2 := by
 unfold sQ70 GQ70
 have key : ∀ f : Nat, f <= 64 -> ∀ (m : Nat) (e : Int), m ≠ 0 -> m < 2 ^ f -> m < 2 ^ 64 -> -2000 <= e -> e + f <= 3000 -> ∀ M : Nat, f < M -> iterG M (st_z01_odd_0 N fun a b => k a b) ((m : Int), e) = k ((odd2 f m e).1 : Int) (odd2 f m e).2 := by
  intro f
  induction f with
  | zero => intro _ m e h0 h; simp at h; omega
  | succ f ih =>
   intro hf m e h0 h h64 h1 h2 M hM
   cases M with
   | zero => omega
   | succ M =>
    show st_z01_odd_0 N _ ((m : Int), e) (iterG M _) = _
    have e2 : Int.tmod (m : Int) 2 = ((m % 2 : Nat) : Int) := by rw [Int.tmod_eq_emod_of_nonneg (by omega)]; rfl
    have e3 : Int.tdiv (m : Int) 2 = ((m / 2 : Nat) : Int) := by rw [Int.tdiv_eq_ediv_of_nonneg (by omega)]; rfl
    simp only [st_z01_odd_0, odd2, e2, e3]
    by_cases hm : m % 2 = 0
    ·have : (((m % 2 : Nat) : Int) == 0) = true := by rw [hm]; rfl
     have ew : IntKind.wrap .u64 ((m / 2 : Nat) : Int) = ((m / 2 : Nat) : Int) := by
      rw [wrap64]
      have : (2 : Nat) ^ 64 = 18446744073709551616 := by decide
      omega
     rw [this, cond_true, and_tr (fits_ok (by omega) (by omega)), if_pos hm, ew]
     exact ih (by omega) (m / 2) (e + 1) (by omega) (by rw [Nat.pow_succ] at h; omega) (by omega) (by omega) (by omega) M (by omega)
    ·have : (((m % 2 : Nat) : Int) == 0) = false := by
      have : m % 2 = 1 := by omega
      rw [this]; rfl
     rw [this, cond_false, if_neg hm]
 have : ((m : Int) == 0) = false := by simp; omega
 rw [this, cond_false]
 exact key 64 (Nat.le_refl _) m e h0 hm hm (by omega) (by omega) N (by omega)
theorem law_odd0 (N : Nat) (e : Int) (k : Int -> Int -> Bool) : sQ70 N 0 e k = k 0 0 := by
 unfold sQ70 GQ70; rfl
def ofE (x : Fl) : Int × Int := match x with
 | some b => match Ieee.double.read b with
  | .number s m i => if m = 0 then (0, 0) else ((odd2 64 m i).2, ival s (odd2 64 m i).1)
  | _ => (0, 0)
 | none => (0, 0)
theorem ofE_num {b : Nat} {s : Bool} {m : Nat} {i : Int} (h : Ieee.double.read b = .number s m i) : ofE (some b) = if m = 0 then (0, 0) else ((odd2 64 m i).2, ival s (odd2 64 m i).1) := by unfold ofE; simp only [h]
theorem law_Parts {N : Nat} (hN : 1000 <= N) {b : Nat} (hb : W64 b) {s : Bool} {m : Nat} {i : Int} (h : Ieee.double.read b = .number s m i) (k : Bool -> Int -> Int -> Int -> Bool) :
    sQ67 N (some b) k = if m = 0 then k s 0 0 0 else k s ((odd2 64 m i).1 : Int) (odd2 64 m i).2 0 := by
  obtain ⟨h1, h2, h3⟩ := read_number h
  have hpl := place_le h
  have hnn : isNaN b = false := by
    rw [Bool.eq_false_iff]; intro hc; have := (isNaN_iff b).1 hc; omega
  have hbits : bitsF (some b) = b := by simp only [bitsF, cnb, hnn]; rfl
  have hsg : (Int.fdiv (b : Int) (2 ^ 63) == 1) = s := by
    have e : (2 : Int) ^ 63 = ((9223372036854775808 : Nat) : Int) := by decide
    rw [e, nat_fdiv, h1]
    have hW : b / 9223372036854775808 < 2 := by have := hb; omega
    have : b / 9223372036854775808 = 0 \/ b / 9223372036854775808 = 1 := by omega
    rcases this with h | h <;> rw [h] <;> rfl
  have fin : ∀ (e : Int), i = e - 1074 -> -1100 <= e -> e <= 2100 -> JQ100 N (sQ44 N) (sQ70 N) (some b) s e (m : Int) k = if m = 0 then k s 0 0 0 else k s ((odd2 64 m i).1 : Int) (odd2 64 m i).2 0 := by
    intro e he h5 h6
    unfold JQ100
    rw [and_tr (fits_ok (by omega) (by omega)), <- he]
    by_cases h0 : m = 0
    · subst h0; rw [if_pos rfl]; exact law_odd0 N i _
    · rw [if_neg h0, law_odd hN h0 (by have : (2 : Nat) ^ 64 = 18446744073709551616 := by decide
                                       omega) (by omega) (by omega)]
  unfold sQ67 GQ67
  rw [law_Split, hbits]
  rw [hsg]
  have n2047 : (((b / 4503599627370496 % 2048 : Nat) : Int) == 2047) = false := by simp; omega
  rw [n2047, cond_false]
  rcases h3 with ⟨g1, g2, g3⟩ | ⟨g1, g2, g3⟩
  · have e0 : b / 4503599627370496 % 2048 = 0 := by omega
    have e1 : b % 4503599627370496 = m := by omega
    rw [e0, e1, decide_eq_false (by decide), cond_false]
    exact fin 0 (by omega) (by omega) (by omega)
  · have e0 : 0 < b / 4503599627370496 % 2048 := by omega
    have e1 : IntKind.wrap .u64 (((b % 4503599627370496 : Nat) : Int) + 4503599627370496) = (m : Int) := by rw [wrap64]; omega
    rw [decide_eq_true (by omega : ((b / 4503599627370496 % 2048 : Nat) : Int) > 0), cond_true, and_tr (fits_ok (by omega) (by omega)), e1]
    exact fin _ (by omega) (by omega) (by omega)
theorem law_Of {N : Nat} (hN : 1000 <= N) {x : Fl} (hx : finF x = true) (hw : FW x) (k : Int -> Bool -> List Int -> Bool) : sQ27 N x k = exK (ofE x) k := by
  obtain ⟨b, s, m, i, rfl, h⟩ := finF_num hx
  have hb := hw b rfl
  unfold sQ27 GQ27
  rw [law_Parts hN hb h, ofE_num h]
  by_cases h0 : m = 0
  · rw [if_pos h0, if_pos h0]
    have : ∀ κ, sQ30 N 0 false κ = κ false (digs 0) := fun κ => law_SetUint64 (N := N) 0 (by decide) false (short_small hN (by decide)) (by omega) κ
    rw [this]
    cases s
    · rw [cond_false]; unfold exK; rfl
    · rw [cond_true, law_Neg_r _ _ (short_small hN (by decide))]; unfold exK intK; rfl
  · rw [if_neg h0, if_neg h0]
    have hpl := place_le h
    obtain ⟨g1, g2, g3, g4⟩ := odd2_facts 64 m i h0 (by have : (2 : Nat) ^ 64 = 18446744073709551616 := by decide
                                                        omega)
    have hs := short_small (N := N) (n := (odd2 64 m i).1) hN (by omega)
    rw [law_SetUint64 (N := N) _ (by omega) false hs (by omega)]
    cases s
    · rw [cond_false]
      show _ = k (odd2 64 m i).2 (decide ((((odd2 64 m i).1 : Nat) : Int) < 0)) (digs (((odd2 64 m i).1 : Nat) : Int).natAbs)
      rw [decide_eq_false (by omega), Int.natAbs_natCast]
    · rw [cond_true, law_Neg_r _ _ hs]; rfl
def EV (x : Int × Int) (v : Int) (E : Nat) : Prop := 0 <= x.1 + E /\ x.2 * 2 ^ (x.1 + E).toNat = v
theorem EV.up {x : Int × Int} {v : Int} {E : Nat} (h : EV x v E) (F : Nat) : EV x (v * 2 ^ F) (E + F) := by
 obtain ⟨h1, h2⟩ := h
 refine ⟨by omega, ?_⟩
 have : (x.1 + ((E + F : Nat) : Int)).toNat = (x.1 + E).toNat + F := by omega
 rw [this, Int.pow_add, <- Int.mul_assoc, h2]
theorem EV.mul {x y : Int × Int} {v w : Int} {E F : Nat} (h : EV x v E) (g : EV y w F) : EV (exMul x y) (v * w) (E + F) := by
 obtain ⟨h1, h2⟩ := h
 obtain ⟨g1, g2⟩ := g
 refine ⟨by simp only [exMul]; omega, ?_⟩
 have : ((exMul x y).1 + ((E + F : Nat) : Int)).toNat = (x.1 + E).toNat + (y.1 + F).toNat := by simp only [exMul]; omega
 rw [this, Int.pow_add, <- h2, <- g2]
 simp only [exMul]
 ac_rfl
theorem EV.neg {x : Int × Int} {v : Int} {E : Nat} (h : EV x v E) : EV (exNeg x) (-v) E := ⟨h.1, by rw [<- h.2]; exact Int.neg_mul _ _⟩
theorem exLow_val {x : Int × Int} {v : Int} {E : Nat} (h : EV x v E) {e : Int} (he : e <= x.1) (hE : 0 <= e + E) : exLow x e * 2 ^ (e + E).toNat = v := by
 unfold exLow
 rw [Int.mul_assoc, <- Int.pow_add, show (x.1 - e).toNat + (e + E).toNat = (x.1 + E).toNat by omega]
 exact h.2
theorem EV.add {x y : Int × Int} {v w : Int} {E : Nat} (h : EV x v E) (g : EV y w E) : EV (exAdd x y) (v + w) E := by
 unfold exAdd
 split
 ·rename_i h0
  have : v = 0 := by rw [<- h.2, h0, Int.zero_mul]
  rw [this, Int.zero_add]; exact g
 ·split
  ·rename_i h0
   have : w = 0 := by rw [<- g.2, h0, Int.zero_mul]
   rw [this, Int.add_zero]; exact h
  ·have hE : 0 <= min x.1 y.1 + E := by have := h.1; have := g.1; omega
   exact ⟨hE, by rw [Int.add_mul, exLow_val h (by omega) hE, exLow_val g (by omega) hE]⟩
theorem EV.sgn {x : Int × Int} {v : Int} {E : Nat} (h : EV x v E) : sgnI x.2 = sgnI v := by
 rw [<- h.2]
 have hp := pow2_pos (x.1 + E).toNat
 unfold sgnI
 rcases Int.lt_trichotomy x.2 0 with h | h | h
 ·have := Int.mul_neg_of_neg_of_pos h hp
  rw [if_neg (by omega), if_pos h, if_neg (by omega), if_pos this]
 ·rw [h, Int.zero_mul]
 ·have := Int.mul_pos h hp
  rw [if_neg (by omega), if_neg (by omega), if_neg (by omega), if_neg (by omega)]
theorem EV_zero (E : Nat) : EV (0, 0) 0 E := ⟨by simp only []; omega, Int.zero_mul _⟩
theorem Ex.mono {E B E' B' : Nat} {x : Int × Int} (h : Ex E B x) (hE : E <= E') (hB : B <= B') : Ex E' B' x := ⟨by have := h.1; omega, by have := h.2.1; omega, bits_mono h.2.2 hB⟩
theorem Ex.mul {E B E' B' : Nat} {x y : Int × Int} (h : Ex E B x) (g : Ex E' B' y) : Ex (E + E') (B + B') (exMul x y) :=
 ⟨by have := h.1; have := g.1; simp only [exMul]; omega, by have := h.2.1; have := g.2.1; simp only [exMul]; omega, by
  show Bits _ (x.2 * y.2).natAbs
  rw [Int.natAbs_mul]; exact bits_mul h.2.2 g.2.2⟩
theorem Ex.neg {E B : Nat} {x : Int × Int} (h : Ex E B x) : Ex E B (exNeg x) := ⟨h.1, h.2.1, by show Bits _ (-x.2).natAbs; rw [Int.natAbs_neg]; exact h.2.2⟩
theorem low_bits {E B : Nat} {x : Int × Int} (h : Ex E B x) {e : Int} (he : -(E : Int) <= e) : Bits (B + 2 * E) (exLow x e).natAbs := by
 unfold exLow
 rw [Int.natAbs_mul, Int.natAbs_pow]
 refine bits_mono (bits_shift h.2.2 _) ?_
 have := h.2.1; omega
theorem Ex.add {E B : Nat} {x y : Int × Int} (h : Ex E B x) (g : Ex E B y) : Ex E (B + 2 * E + 1) (exAdd x y) := by
 unfold exAdd
 split
 ·exact g.mono (Nat.le_refl _) (by omega)
 ·split
  ·exact h.mono (Nat.le_refl _) (by omega)
  ·refine ⟨by have := h.1; have := g.1; show -(E : Int) <= min x.1 y.1; omega, by have := h.2.1; show min x.1 y.1 <= E; omega, ?_⟩
   have h1 := low_bits h (e := min x.1 y.1) (by have := h.1; have := g.1; omega)
   have h2 := low_bits g (e := min x.1 y.1) (by have := h.1; have := g.1; omega)
   exact bits_le (bits_add h1 h2) (Int.natAbs_add_le _ _)
theorem intK_mk (z : Int) (k : Bool -> List Int -> Bool) : intK z k = k (decide (z < 0)) (digs z.natAbs) := rfl
theorem law_Low {N : Nat} (hN : 1000 <= N) {E B : Nat} {x : Int × Int} (hx : Ex E B x) {e : Int} (he : -(E : Int) <= e) (hB : B + 2 * E <= 30000) (k0 : Bool) (k1 : Bool -> List Int -> Bool) (h0 : x.1 <= e -> k0 = intK x.2 k1) (he2 : x.1 <= e -> e = x.1) :
  sQ23 N x.1 e (decide (x.2 < 0)) (digs x.2.natAbs) k0 k1 = intK (exLow x e) k1 := by
 unfold sQ23 GQ23
 have hx1 := hx.1
 have hx2 := hx.2.1
 by_cases hc : x.1 <= e
 ·rw [decide_eq_true (by omega : e >= x.1), cond_true, h0 hc]
  have : exLow x e = x.2 := by
   unfold exLow
   rw [he2 hc, Int.sub_self]; simp
  rw [this]
 ·rw [decide_eq_false (by omega : ¬ e >= x.1), cond_false, and_tr (fits_ok (by omega) (by omega))]
  have ew : IntKind.wrap .u64 (x.1 - e) = (((x.1 - e).toNat : Nat) : Int) := by rw [wrap64]; omega
  rw [ew, law_Lsh_n _ _ _ _ (bits_shOk hN (by omega) hx.2.2)]
  congr 1
  unfold exLow ival
  by_cases hz : x.2 < 0
  ·rw [decide_eq_true hz, if_pos rfl, Int.natCast_mul, Int.natCast_pow, <- Int.neg_mul]
   congr 1; omega
  ·rw [decide_eq_false hz, if_neg (by decide), Int.natCast_mul, Int.natCast_pow]
   congr 1; omega
theorem ofE_Ex {x : Fl} (hx : finF x = true) : Ex 1100 53 (ofE x) := by
  obtain ⟨b, s, m, i, rfl, h⟩ := finF_num hx
  rw [ofE_num h]
  have hpl := place_le h
  have hpg := place_ge h
  by_cases h0 : m = 0
  · rw [if_pos h0]; exact ⟨by decide, by decide, Nat.two_pow_pos _⟩
  · rw [if_neg h0]
    obtain ⟨g1, g2, g3, g4⟩ := odd2_facts 64 m i h0 (by have : (2 : Nat) ^ 64 = 18446744073709551616 := by decide
                                                        omega)
    refine ⟨by show -((1100 : Nat) : Int) <= (odd2 64 m i).2; omega, by show (odd2 64 m i).2 <= ((1100 : Nat) : Int); omega, ?_⟩
    show Bits 53 (ival s (odd2 64 m i).1).natAbs
    have : (ival s (odd2 64 m i).1).natAbs = (odd2 64 m i).1 := by unfold ival; cases s <;> simp
    rw [this]
    show _ < 2 ^ 53
    have : (2 : Nat) ^ 53 = 9007199254740992 := by decide
    omega
theorem ofE_EV {b : Nat} {s : Bool} {m : Nat} {i : Int} (h : Ieee.double.read b = .number s m i) {E : Nat} (hE : 1074 <= E) : EV (ofE (some b)) (signed s m (i + E).toNat) E := by
  rw [ofE_num h]
  have hpg := place_ge h
  by_cases h0 : m = 0
  · rw [if_pos h0]; subst h0; rw [signed_zero]; exact EV_zero E
  · rw [if_neg h0]
    have hpl := place_le h
    obtain ⟨g1, g2, g3, g4⟩ := odd2_facts 64 m i h0 (by have : (2 : Nat) ^ 64 = 18446744073709551616 := by decide
                                                        omega)
    refine ⟨by show 0 <= (odd2 64 m i).2 + (E : Int); omega, ?_⟩
    show ival s (odd2 64 m i).1 * 2 ^ ((odd2 64 m i).2 + E).toNat = _
    generalize odd2 64 m i = q at *
    have e1 : (q.2 + E).toNat = (q.2 - i).toNat + (i + E).toNat := by omega
    unfold ival signed
    rw [Nat.shiftLeft_eq, e1, Int.pow_add, <- g3]
    cases s
    · simp only [Bool.false_eq_true, if_false]
      rw [Int.natCast_mul, Int.natCast_mul, Int.natCast_pow, Int.natCast_pow]; rw [show ((2 : Nat) : Int) = 2 from rfl]; ac_rfl
    · simp only [if_true]
      rw [Int.natCast_mul, Int.natCast_mul, Int.natCast_pow, Int.natCast_pow]; rw [show ((2 : Nat) : Int) = 2 from rfl]
      rw [Int.neg_mul]; congr 1; ac_rfl
set_option linter.unusedVariables false
theorem odd2_form : ∀ (f t c : Nat) (e : Int), t < f -> odd2 f (2 ^ t * (2 * c + 1)) e = (2 * c + 1, e + t)
 | 0, t, c, e, h => by omega
 | f + 1, 0, c, e, h => by
  unfold odd2
  rw [Nat.pow_zero, Nat.one_mul, if_neg (by omega)]
  simp
 | f + 1, t + 1, c, e, h => by
  unfold odd2
  have e1 : 2 ^ (t + 1) * (2 * c + 1) = 2 * (2 ^ t * (2 * c + 1)) := by rw [Nat.pow_succ]; ac_rfl
  rw [e1, if_pos (by omega), Nat.mul_div_cancel_left _ (by decide), odd2_form f t c (e + 1) (by omega)]
  congr 1; omega
set_option linter.unusedVariables false
def mat {α : Type} (g : Rat -> α) (n : Nat) (f : Nat -> Nat -> Rat) : List α := (List.range (n * n)).map (fun t => g (f (t / n) (t % n)))
theorem idx_ltm {n i j : Nat} (hi : i < n) (hj : j < n) : i * n + j < n * n := by
 have h1 : (i + 1) * n <= n * n := Nat.mul_le_mul_right _ hi
 rw [Nat.add_mul] at h1; omega
theorem idx_div {n i j : Nat} (hj : j < n) : (i * n + j) / n = i := by
 rw [Nat.mul_comm, Nat.mul_add_div (by omega), Nat.div_eq_of_lt hj, Nat.add_zero]
theorem idx_mod {n i j : Nat} (hj : j < n) : (i * n + j) % n = j := by
 rw [Nat.mul_comm, Nat.mul_add_mod, Nat.mod_eq_of_lt hj]
theorem sq_small {n : Nat} (h : n <= 1000) : n * n <= 1000000 := by
 have : n * n <= 1000 * 1000 := Nat.mul_le_mul h h
 omega
theorem idx_cast (i j n : Nat) : (i : Int) * (n : Int) + (j : Int) = ((i * n + j : Nat) : Int) := by
 rw [Int.natCast_add, Int.natCast_mul]
theorem idx_fits {n i j : Nat} (hn : n <= 1000) (hi : i < n) (hj : j < n) : fits .i64 ((i : Int) * (n : Int)) = true /\ fits .i64 (((i * n + j : Nat) : Int)) = true := by
 have h1 := sq_small hn
 have h2 := idx_ltm hi hj
 rw [<- Int.natCast_mul]
 exact ⟨fits_ok (by omega) (by omega), fits_ok (by omega) (by omega)⟩
theorem iterG_from {σ : Type} {step : σ -> (σ -> Bool) -> Bool} (C : Nat -> σ) (m n : Nat) (hmn : m <= n) {N : Nat} (hn : n < N) {out : Bool} (hs : ∀ i, m <= i -> i < n -> ∀ K : σ -> Bool, step (C i) K = K (C (i + 1))) (hx : ∀ K, step (C n) K = out) : iterG N step (C m) = out := by
 have := iterG_eq (step := step) (fun i => C (m + i)) (n - m) (N := N) (by omega) (out := out) (fun i hi K => hs (m + i) (by omega) (by omega) K) (fun K => by show step (C (m + (n - m))) K = out; rw [show m + (n - m) = n by omega]; exact hx K)
 exact this
set_option linter.unusedVariables false
theorem allFin_get {l : List Fl} (h : allFin l = true) {i : Nat} (hi : i < l.length) : finF (l.getD i none) = true := by
 unfold allFin at h
 exact allN_iff.1 h i hi
def AllW (l : List Fl) : Prop := ∀ x, x ∈ l -> FW x
theorem AllW.get {l : List Fl} (h : AllW l) {i : Nat} (hi : i < l.length) : FW (l.getD i none) := by
 rw [List.getD_eq_getElem?_getD, List.getElem?_eq_getElem hi]
 exact h _ (List.getElem_mem hi)
theorem mul_144 {a b : Int} (h1 : 0 <= a /\ a <= 12) (h2 : 0 <= b /\ b <= 12) : 0 <= a * b /\ a * b <= 144 := by
 have h3 : a * b <= 12 * b := Int.mul_le_mul_of_nonneg_right h1.2 h2.1
 have h4 : 0 <= a * b := Int.mul_nonneg h1.1 h2.1
 omega
set_option linter.unusedVariables false
set_option linter.unusedVariables false
set_option linter.unusedVariables false
set_option linter.unusedVariables false
set_option linter.unusedVariables false
set_option linter.unusedVariables false
set_option linter.unusedVariables false
set_option linter.unusedVariables false
set_option linter.unusedVariables false
set_option linter.unusedVariables false
set_option linter.unusedVariables false
set_option linter.unusedVariables false
set_option linter.unusedVariables false
set_option linter.unusedVariables false
def dirE (a b c : Fl) : Int := cond (!allFin [a, b, c]) 4 (cond (feq a (some 0) && (feq b (some 0) && feq c (some 0))) 251 0)
set_option linter.unusedVariables false
set_option linter.unusedVariables false
set_option maxRecDepth 4000
theorem nine_chk {a0 a1 a2 a3 a4 a5 a6 a7 a8 : Fl} (h : allFin [a0, a1, a2, a3, a4, a5, a6, a7, a8] = true) : chk 3 3 [a0, a1, a2, a3, a4, a5, a6, a7, a8] = 0 := chk_zero.2 ⟨by decide, rfl, h⟩
set_option linter.unusedVariables false
set_option maxRecDepth 4000
theorem inf_abs13 {b : Nat} (hb : W64 b) {s : Bool} (h : Ieee.double.read b = .infinity s) : absF (some b) = some 9218868437227405312 := by
 unfold Format.read at h
 simp only [signWeight_d, binade_d, infRung_d] at h
 unfold W64 at hb
 split at h
 ·cases h
 ·split at h
  ·cases h
  ·split at h
   ·rename_i h1 h2 h3
    show canon (b % 9223372036854775808) = _
    have : b % 9223372036854775808 = 9218868437227405312 := by omega
    rw [this]; decide
   ·cases h
theorem law_StOf {N : Nat} {x : Fl} (hw : FW x) (o : Bool) (k : Bool -> Bool) : sQ25 N x o k = k (o || !finF x) := by
 unfold sQ25 GQ25
 cases hf : finF x with
 | true => rw [feq_refl hf, law_IsInf_fin N hf hw]; cases o <;> rfl
 | false =>
  rw [Bool.not_false, Bool.or_true]
  cases x with
  | none => rfl
  | some b =>
   cases hr : Ieee.double.read b with
   | number s m i => rw [finF_of hr] at hf; cases hf
   | nan s f =>
    have : feq (some b) (some b) = false := by rw [feq_w, hr]; rfl
    rw [this]; rfl
   | infinity s =>
    have h1 : feq (some b) (some b) = true := by rw [feq_w, hr]; cases s <;> rfl
    rw [h1]
    show sQ63 N (some b) 0 _ = _
    unfold sQ63 GQ63
    rw [show ((0 : Int) == 0) = true from rfl, cond_true]
    simp only [s_m_Abs]
    rw [inf_abs13 (hw b rfl) hr]
    have h2 : fgt (some 9218868437227405312) (some 9218868437227405311) = true := by decide
    rw [h2, cond_true]
theorem law_Mul (N : Nat) (x y : Fl) (o : Bool) (k : Fl -> Bool -> Bool) : sQ21 N x y o k = k (fmul x y) (o || !finF (fmul x y)) := by
 unfold sQ21 GQ21
 rw [law_StOf (FW_fmul x y)]
set_option linter.unusedVariables false
set_option linter.unusedVariables false
theorem law_matR {N n i j : Nat} (hn : n <= 12) (hi : i < n) (hj : j < n) {l : List Fl} (h : l.length = n * n) (k : Fl -> Bool) : sQ52 N n n l i j k = k (elt l n i j) := by
 obtain ⟨h1, h2⟩ := idx_fits (by omega : n <= 1000) hi hj
 have h3 := idx_lt hi hj
 unfold sQ52 GQ52 elt
 rw [idx_cast, and_tr h1, and_tr h2, h, Int.toNat_natCast, and_tr (inR_of (by omega) (by omega))]
theorem law_shape {N : Nat} (r c : Int) (n : Int) (k : Int -> Bool) : sQ72 N r c n k = k (if (0 <= r /\ r <= 12) /\ (0 <= c /\ c <= 12) then (if n = r * c then 0 else 3) else 1) := by
 unfold sQ72 GQ72
 by_cases h1 : r < 0
 ·rw [decide_eq_true h1, if_neg (by omega)]; rfl
 ·rw [decide_eq_false h1]
  by_cases h2 : r > 12
  ·rw [decide_eq_true h2, if_neg (by omega)]; rfl
  ·rw [decide_eq_false h2]
   by_cases h3 : c < 0
   ·rw [decide_eq_true h3, if_neg (by omega)]; rfl
   ·rw [decide_eq_false h3]
    by_cases h4 : c > 12
    ·rw [decide_eq_true h4, if_neg (by omega)]; rfl
    ·have hr : 0 <= r /\ r <= 12 := by omega
     have hc : 0 <= c /\ c <= 12 := by omega
     rw [decide_eq_false h4, if_pos ⟨hr, hc⟩, rc_fits hr hc]
     by_cases h5 : n = r * c
     ·have : (n != r * c) = false := by simp [h5]
      rw [this, if_pos h5]; rfl
     ·have : (n != r * c) = true := by simp [h5]
      rw [this, if_neg h5]; rfl
theorem law_Good {N : Nat} (hN : 1000 <= N) (r c : Int) (l : List Fl) (k : Int -> Bool) : sQ39 N r c l k = k (chk r c l) := by
 unfold sQ39 GQ39 chk
 rw [law_shape]
 by_cases h1 : (0 <= r /\ r <= 12) /\ (0 <= c /\ c <= 12)
 ·rw [if_pos h1, if_pos h1]
  by_cases h2 : (l.length : Int) = r * c
  ·have h3 := mul_144 h1.1 h1.2
   have h6 : l.length <= 144 := by rw [<- h2] at h3; omega
   rw [if_pos h2, if_pos h2, show ((0 : Int) != 0) = false from rfl, cond_false, law_AllFinite l ⟨by omega, by omega⟩]
   cases allFin l <;> rfl
  ·rw [if_neg h2, if_neg h2]; rfl
 ·rw [if_neg h1, if_neg h1]; rfl
theorem of64_W {l : List Int} (h : ∀ z, z ∈ l -> z.toNat < 18446744073709551616) : AllW (of64 l) := by
 intro x hx
 unfold of64 at hx
 obtain ⟨z, hz, rfl⟩ := List.mem_map.1 hx
 exact canon_FW (h z hz)
set_option linter.unusedVariables false
def mf (n : Nat) (f : Nat -> Nat -> Fl) : List Fl := (List.range (n * n)).map (fun t => f (t / n) (t % n))
theorem mf_len (n : Nat) (f : Nat -> Nat -> Fl) : (mf n f).length = n * n := by
 unfold mf; rw [List.length_map, List.length_range]
theorem mf_congr (n : Nat) {f f' : Nat -> Nat -> Fl} (h : ∀ a b, a < n -> b < n -> f a b = f' a b) : mf n f = mf n f' := by
 unfold mf
 apply List.map_congr_left
 intro t ht
 have ht := List.mem_range.1 ht
 have hn : 0 < n := by
  rcases Nat.eq_zero_or_pos n with h0 | h0
  ·rw [h0] at ht; omega
  ·exact h0
 rw [h _ _ (Nat.div_lt_of_lt_mul ht) (Nat.mod_lt _ hn)]
theorem mf_set (n : Nat) (f : Nat -> Nat -> Fl) {i j : Nat} (hi : i < n) (hj : j < n) (v : Fl) : (mf n f).set (i * n + j) v = mf n (fun a b => if a = i /\ b = j then v else f a b) := by
 have h := idx_ltm hi hj
 apply List.ext_getElem?
 intro t
 by_cases ht : t < n * n
 ·have hn : 0 < n := by omega
  rw [List.getElem?_set]
  unfold mf
  rw [List.getElem?_map, List.getElem?_map, List.getElem?_range ht]
  simp only [List.length_map, List.length_range, Option.map_some]
  by_cases he : i * n + j = t
  ·rw [if_pos he, if_pos h, <- he, idx_div hj, idx_mod hj, if_pos ⟨rfl, rfl⟩]
  ·rw [if_neg he]
   have : ¬ (t / n = i /\ t % n = j) := by
    rintro ⟨h1, h2⟩
    apply he
    rw [<- h1, <- h2, Nat.mul_comm]
    exact Nat.div_add_mod t n
   rw [if_neg this]
 ·rw [List.getElem?_eq_none (by rw [List.length_set, mf_len]; omega), List.getElem?_eq_none (by rw [mf_len]; omega)]
theorem mf_zero (n : Nat) : List.replicate (n * n) (some 0) = mf n (fun _ _ => some 0) := by
 apply List.ext_getElem?
 intro t
 unfold mf
 rw [List.getElem?_map, List.getElem?_replicate]
 by_cases ht : t < n * n
 ·rw [if_pos ht, List.getElem?_range ht]; rfl
 ·rw [if_neg ht, List.getElem?_eq_none (by rw [List.length_range]; omega)]; rfl
theorem law_put {N n i j : Nat} (hn : n <= 12) (hi : i < n) (hj : j < n) (f : Nat -> Nat -> Fl) (x : Fl) (k : List Fl -> Bool) : sQ40 N n n i j x (mf n f) k = k (mf n (fun a b => if a = i /\ b = j then x else f a b)) := by
 obtain ⟨h1, h2⟩ := idx_fits (by omega : n <= 1000) hi hj
 have h3 := idx_lt hi hj
 unfold sQ40 GQ40
 rw [idx_cast, and_tr h1, and_tr h2, mf_len, Int.toNat_natCast, and_tr (inR_of (by omega) (by omega)), and_tr (decide_eq_true h3), mf_set n f hi hj]
theorem law_rZero {N n : Nat} (hn : n <= 12) (k : List Fl -> Bool) : sQ54 N n n k = k (mf n (fun _ _ => some 0)) := by
 have h2 : n * n <= 144 := nn_le hn
 unfold sQ54 GQ54
 rw [<- Int.natCast_mul, and_tr (fits_ok (by omega) (by omega)), and_tr (mkOk_ok (by omega) (by omega) (by omega) (by omega)), Int.toNat_natCast, mf_zero]
theorem law_Sqrt (N : Nat) (x : Fl) (k : Fl -> Bool) : sQ17 N x k = k (fsqrt x) := rfl
set_option linter.unusedVariables false
theorem law_IntMul {N : Nat} (b g h : Bool) (m n : Nat) (hN : (digs m).length + (digs n).length + 4 < N) (hs : (digs m).length + (digs n).length <= 17592186044416) (k : Bool -> List Int -> Bool) :
  sQ33 N b g (digs m) h (digs n) k = intK (ival g m * ival h n) k := by
 unfold sQ33 GQ33
 have hl : (digs (m * n)).length <= (digs m).length + (digs n).length := by
  refine digs_len_le _ _ (mul_lt_pow ?_ ?_)
  ·have := mval_lt (digs_inW m); rwa [mval_digs] at this
  ·have := mval_lt (digs_inW n); rwa [mval_digs] at this
 rw [law_times _ _ (digs_inW m) (digs_inW n) (by omega) hs, mval_digs, mval_digs, law_put_n _ _ _ (digs_inW _) ⟨by omega, by omega⟩, mval_digs, put_val _ _ k, ival_mul]
theorem law_Neg_n {N : Nat} (b g : Bool) (n : Nat) (hN : Short N (digs n)) (k : Bool -> List Int -> Bool) : sQ49 N b g (digs n) k = intK (-(ival g n)) k := by
 unfold sQ49 GQ49 sQ57 GQ57
 obtain ⟨h1, h2⟩ := hN
 rw [List.nil_append, decide_eq_true (by omega), Bool.true_and, law_cut_w _ (by omega) (by omega), cut_full]
 simp only [List.drop_zero, List.take_length]
 rw [decide_eq_true (by omega : 0 + (digs n).length <= (digs n).length), Bool.true_and]
 exact neg_val g n k
theorem law_IntAdd {N : Nat} (b g1 : Bool) (n1 : Nat) (g2 : Bool) (n2 : Nat) (h1 : Short N (digs n1)) (h2 : Short N (digs n2)) (h3 : Short N (digs (n1 + n2))) (k : Bool -> List Int -> Bool) :
  sQ28 N b g1 (digs n1) g2 (digs n2) k = intK (ival g1 n1 + ival g2 n2) k := by
 unfold sQ28 GQ28
 rw [law_sum_n false b g1 n1 g2 n2 h1 h2 h3]; rfl
set_option linter.unusedVariables false
theorem law_ExMul {N : Nat} (hN : 1000 <= N) {E B : Nat} {x y : Int × Int} (hx : Ex E B x) (hy : Ex E B y) (hE : E <= 100000) (hB : B <= 15000) (k : Int -> Bool -> List Int -> Bool) :
  sQ2 N x.1 y.1 (decide (x.2 < 0)) (digs x.2.natAbs) (decide (y.2 < 0)) (digs y.2.natAbs) k = exK (exMul x y) k := by
 have h1 := bits_len hx.2.2
 have h2 := bits_len hy.2.2
 unfold sQ2 GQ2
 rw [law_IntMul _ _ _ _ _ (by omega) (by omega), ival_nat, ival_nat, intK_mk, and_tr (fits_ok (by have := hx.1; have := hy.1; omega) (by have := hx.2.1; have := hy.2.1; omega))]
 rfl
theorem law_ExAdd {N : Nat} (hN : 1000 <= N) {E B : Nat} {x y : Int × Int} (hx : Ex E B x) (hy : Ex E B y) (hB : B + 2 * E <= 29000) (k0 k1 : Bool) (k2 : Int -> Bool -> List Int -> Bool) (h0 : k0 = exK y k2) (h1 : k1 = exK x k2) :
  sQ0 N x.1 y.1 (decide (x.2 < 0)) (digs x.2.natAbs) (decide (y.2 < 0)) (digs y.2.natAbs) k0 k1 k2 = exK (exAdd x y) k2 := by
 unfold sQ0 GQ0 exAdd
 have z0 : ∀ (z : Int) (g : Bool), ((if z.natAbs = 0 then (0 : Int) else if g = true then -1 else 1) == 0) = decide (z = 0) := by
  intro z g
  by_cases h : z = 0
  ·rw [if_pos (by omega), decide_eq_true h]; rfl
  ·rw [if_neg (by omega), decide_eq_false h]; cases g <;> rfl
 rw [law_Sign_r, z0, law_Sign_r, z0]
 by_cases c0 : x.2 = 0
 ·rw [decide_eq_true c0, cond_true, if_pos c0, h0]
 ·rw [decide_eq_false c0, cond_false, if_neg c0]
  by_cases c1 : y.2 = 0
  ·rw [decide_eq_true c1, cond_true, if_pos c1, h1]
  ·rw [decide_eq_false c1, cond_false, if_neg c1, imm_min]
   have hxe := hx.1
   have hye := hy.1
   have lx := low_bits hx (e := min x.1 y.1) (by omega)
   have ly := low_bits hy (e := min x.1 y.1) (by omega)
   have hadd : ∀ (a b : Int), Bits (B + 2 * E) a.natAbs -> Bits (B + 2 * E) b.natAbs -> sQ28 N false (decide (a < 0)) (digs a.natAbs) (decide (b < 0)) (digs b.natAbs) (fun cr nsr => k2 (min x.1 y.1) cr nsr) = exK (min x.1 y.1, a + b) k2 := by
    intro a b ha hb
    rw [law_IntAdd _ _ _ _ _ (bits_short hN (by omega) ha) (bits_short hN (by omega) hb) (bits_short hN (by omega) (bits_add ha hb)), ival_nat, ival_nat]
    rfl
   have hyl : ∀ (a : Int), Bits (B + 2 * E) a.natAbs -> sQ23 N y.1 (min x.1 y.1) (decide (y.2 < 0)) (digs y.2.natAbs) (sQ28 N false (decide (a < 0)) (digs a.natAbs) (decide (y.2 < 0)) (digs y.2.natAbs) (fun cr nsr => k2 (min x.1 y.1) cr nsr)) (fun g d => sQ28 N false (decide (a < 0)) (digs a.natAbs) g d (fun cr nsr => k2 (min x.1 y.1) cr nsr)) = exK (min x.1 y.1, a + exLow y (min x.1 y.1)) k2 := by
    intro a ha
    rw [law_Low hN hy (by omega) (by omega) _ _ (fun _ => by rw [intK_mk]) (by omega), intK_mk, hadd _ _ ha ly]
   rw [law_Low hN hx (by omega) (by omega) _ _ (fun h => by
    rw [intK_mk]) (by omega), intK_mk, hyl _ lx]
theorem law_ExCmp {N : Nat} (hN : 1000 <= N) {E B : Nat} {x y : Int × Int} (hx : Ex E B x) (hy : Ex E B y) (hB : B + 2 * E <= 28000) (k : Int -> Bool) :
  sQ1 N x.1 y.1 (decide (x.2 < 0)) (digs x.2.natAbs) (decide (y.2 < 0)) (digs y.2.natAbs) k = k (sgnI (exAdd x (exNeg y)).2) := by
 unfold sQ1 GQ1 sQ3 GQ3
 rw [law_Neg_n _ _ _ (bits_short hN (by omega) hy.2.2), ival_nat, intK_mk]
 have sg : ∀ (z : Int), sQ36 N (decide (z < 0)) (digs z.natAbs) (fun nr => k nr) = k (sgnI z) := by
  intro z
  rw [law_Sign_r]
  unfold sgnI
  congr 1
  by_cases h : z = 0
  ·rw [if_pos (by omega), if_pos h]
  ·rw [if_neg (by omega), if_neg h]
   by_cases hl : z < 0
   ·rw [if_pos (decide_eq_true hl), if_pos hl]
   ·rw [if_neg (by rw [decide_eq_false hl]; decide), if_neg hl]
 have := law_ExAdd (N := N) hN hx (Ex.neg hy) (by omega) (sQ36 N (decide (-y.2 < 0)) (digs (-y.2).natAbs) (fun nr => k nr)) (sQ36 N (decide (x.2 < 0)) (digs x.2.natAbs) (fun nr => k nr)) (fun _ g d => sQ36 N g d (fun nr => k nr)) rfl rfl
 refine Eq.trans this ?_
 unfold exK
 exact sg _
set_option linter.unusedVariables false
@[irreducible] def Sc : Nat := 1074
theorem Sc_ge : 1074 <= Sc := by unfold Sc; exact Nat.le_refl _
theorem Sc_le : Sc <= 1074 := by unfold Sc; exact Nat.le_refl _
@[irreducible] def e2 : Nat := 4196
theorem e2_eq : e2 = 2098 + 2098 := by unfold e2; rfl
def valE (x : Fl) : Int := (ofE x).2 * 2 ^ ((ofE x).1 + Sc).toNat
theorem valE_EV {x : Fl} (hx : finF x = true) : EV (ofE x) (valE x) Sc := by
 obtain ⟨b, s, m, i, rfl, h⟩ := finF_num hx
 exact ⟨(ofE_EV h Sc_ge).1, rfl⟩
theorem valE_num {b : Nat} {s : Bool} {m : Nat} {i : Int} (h : Ieee.double.read b = .number s m i) : valE (some b) = signed s m (i + Sc).toNat := (ofE_EV h Sc_ge).2
theorem EV.bits {x : Int × Int} {v : Int} {E B : Nat} (h : EV x v E) (g : Bits B v.natAbs) : Bits B x.2.natAbs := by
 refine bits_le g ?_
 rw [<- h.2, abs_mul_pow]
 exact Nat.le_mul_of_pos_right _ (Nat.two_pow_pos _)
def FinL (a : List Fl) (n : Nat) : Prop := ∀ i, i < n -> finF (a.getD i none) = true /\ FW (a.getD i none)
theorem FinL.mono {a : List Fl} {n m : Nat} (h : FinL a n) (hm : m <= n) : FinL a m := fun i hi => h i (by omega)
set_option linter.unusedVariables false
set_option linter.unusedVariables false
set_option linter.unusedVariables false
set_option linter.unusedVariables false
set_option linter.unusedVariables false
set_option linter.unusedVariables false
set_option linter.unusedVariables false
set_option linter.unusedVariables false
theorem digs_getD : ∀ (i V : Nat), (digs V).getD i 0 = ((V / 4294967296 ^ i % 4294967296 : Nat) : Int)
 | i, V => by
  by_cases h : V = 0
  ·subst h; rw [digs_zero]; simp
  ·rw [digs_pos h]
   cases i with
   | zero => simp
   | succ i =>
    show (digs (V / 4294967296)).getD i 0 = _
    rw [digs_getD i (V / 4294967296), Nat.pow_succ, Nat.mul_comm, <- Nat.div_div_eq_div_mul]
set_option linter.unusedVariables false
def pE (e : Int) : Int := 1 * 2 ^ (e + ((Sc + Sc : Nat) : Int)).toNat
end Go.Proofs.YtjpaijnmiaoopaaGreatDoor
