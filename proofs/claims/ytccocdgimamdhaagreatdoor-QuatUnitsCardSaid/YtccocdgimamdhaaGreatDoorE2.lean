/-
  PURE: the document's exact numbers (binnacleref03): of a float, sums, products, comparisons; what they are worth.
  Conditions: N at least 1000; few bits.
-/
import Derived.Test.YtccocdgimamdhaaGreatDoorE1
import Derived.Test.YtccocdgimamdhaaGreatDoorR0
import Derived.Test.YtccocdgimamdhaaGreatDoorFlA
namespace Go.Proofs.YtccocdgimamdhaaGreatDoor
open Go Go.Mach Ieee
set_option linter.unusedVariables false

def odd2 : Nat -> Nat -> Int -> Nat × Int
  | 0, m, e => (m, e)
  | f + 1, m, e => if m % 2 = 0 then odd2 f (m / 2) (e + 1) else (m, e)
theorem odd2_facts : ∀ f m e, m ≠ 0 -> m < 2 ^ f -> e <= (odd2 f m e).2 /\ (odd2 f m e).2 <= e + f /\ (odd2 f m e).1 * 2 ^ ((odd2 f m e).2 - e).toNat = m /\ (odd2 f m e).1 <= m
  | 0, m, e, h0, h => by simp at h; omega
  | f + 1, m, e, h0, h => by
    unfold odd2
    split
    · rename_i hm
      obtain ⟨h1, h2, h3, h4⟩ := odd2_facts f (m / 2) (e + 1) (by omega) (by rw [Nat.pow_succ] at h; omega)
      refine ⟨by omega, by omega, ?_, by omega⟩
      have : ((odd2 f (m / 2) (e + 1)).2 - e).toNat = ((odd2 f (m / 2) (e + 1)).2 - (e + 1)).toNat + 1 := by omega
      rw [this, Nat.pow_succ, <- Nat.mul_assoc, h3]; omega
    · refine ⟨by omega, by omega, ?_, Nat.le_refl _⟩
      rw [Int.sub_self]; simp
theorem law_odd {N : Nat} (hN : 1000 <= N) {m : Nat} {e : Int} (h0 : m ≠ 0) (hm : m < 2 ^ 64) (he1 : -2000 <= e) (he2 : e <= 2000) (k : Int -> Int -> Bool) :
    sj163 N m e k = k ((odd2 64 m e).1 : Int) (odd2 64 m e).2 := by
  unfold sj163 Gj163
  have key : ∀ f : Nat, f <= 64 -> ∀ (m : Nat) (e : Int), m ≠ 0 -> m < 2 ^ f -> m < 2 ^ 64 -> -2000 <= e -> e + f <= 3000 -> ∀ M : Nat, f < M -> iterG M (st_z01_odd_0 N fun a b => k a b) ((m : Int), e) = k ((odd2 f m e).1 : Int) (odd2 f m e).2 := by
    intro f
    induction f with
    | zero => intro _ m e h0 h; simp at h; omega
    | succ f ih =>
      intro hf m e h0 h h64 h1 h2 M hM
      cases M with
      | zero => omega
      | succ M =>
        show st_z01_odd_0 N _ ((m : Int), e) (iterG M _) = _
        have e2 : Int.tmod (m : Int) 2 = ((m % 2 : Nat) : Int) := by rw [Int.tmod_eq_emod_of_nonneg (by omega)]; rfl
        have e3 : Int.tdiv (m : Int) 2 = ((m / 2 : Nat) : Int) := by rw [Int.tdiv_eq_ediv_of_nonneg (by omega)]; rfl
        simp only [st_z01_odd_0, odd2, e2, e3]
        by_cases hm : m % 2 = 0
        · have : (((m % 2 : Nat) : Int) == 0) = true := by rw [hm]; rfl
          have ew : IntKind.wrap .u64 ((m / 2 : Nat) : Int) = ((m / 2 : Nat) : Int) := by
            rw [wrap64]
            have : (2 : Nat) ^ 64 = 18446744073709551616 := by decide
            omega
          rw [this, cond_true, and_tr (fits_ok (by omega) (by omega)), if_pos hm, ew]
          exact ih (by omega) (m / 2) (e + 1) (by omega) (by rw [Nat.pow_succ] at h; omega) (by omega) (by omega) (by omega) M (by omega)
        · have : (((m % 2 : Nat) : Int) == 0) = false := by
            have : m % 2 = 1 := by omega
            rw [this]; rfl
          rw [this, cond_false, if_neg hm]
  have : ((m : Int) == 0) = false := by simp; omega
  rw [this, cond_false]
  exact key 64 (Nat.le_refl _) m e h0 hm hm (by omega) (by omega) N (by omega)
theorem law_odd0 (N : Nat) (e : Int) (k : Int -> Int -> Bool) : sj163 N 0 e k = k 0 0 := by
  unfold sj163 Gj163; rfl

def ofE (x : Fl) : Int × Int := match x with
  | some b => match Ieee.double.read b with
    | .number s m i => if m = 0 then (0, 0) else ((odd2 64 m i).2, ival s (odd2 64 m i).1)
    | _ => (0, 0)
  | none => (0, 0)
theorem ofE_num {b : Nat} {s : Bool} {m : Nat} {i : Int} (h : Ieee.double.read b = .number s m i) : ofE (some b) = if m = 0 then (0, 0) else ((odd2 64 m i).2, ival s (odd2 64 m i).1) := by unfold ofE; simp only [h]
theorem law_Parts {N : Nat} (hN : 1000 <= N) {b : Nat} (hb : W64 b) {s : Bool} {m : Nat} {i : Int} (h : Ieee.double.read b = .number s m i) (k : Bool -> Int -> Int -> Int -> Bool) :
    sj154 N (some b) k = if m = 0 then k s 0 0 0 else k s ((odd2 64 m i).1 : Int) (odd2 64 m i).2 0 := by
  obtain ⟨h1, h2, h3⟩ := read_number h
  have hpl := place_le h
  have hnn : isNaN b = false := by
    rw [Bool.eq_false_iff]; intro hc; have := (isNaN_iff b).1 hc; omega
  have hbits : bitsF (some b) = b := by simp only [bitsF, cnb, hnn]; rfl
  have hsg : (Int.fdiv (b : Int) (2 ^ 63) == 1) = s := by
    have e : (2 : Int) ^ 63 = ((9223372036854775808 : Nat) : Int) := by decide
    rw [e, nat_fdiv, h1]
    have hW : b / 9223372036854775808 < 2 := by have := hb; omega
    have : b / 9223372036854775808 = 0 \/ b / 9223372036854775808 = 1 := by omega
    rcases this with h | h <;> rw [h] <;> rfl
  have fin : ∀ (e : Int), i = e - 1074 -> -1100 <= e -> e <= 2100 -> Jj218 N (sj105 N) (sj163 N) (some b) s e (m : Int) k = if m = 0 then k s 0 0 0 else k s ((odd2 64 m i).1 : Int) (odd2 64 m i).2 0 := by
    intro e he h5 h6
    unfold Jj218
    rw [and_tr (fits_ok (by omega) (by omega)), <- he]
    by_cases h0 : m = 0
    · subst h0; rw [if_pos rfl]; exact law_odd0 N i _
    · rw [if_neg h0, law_odd hN h0 (by have : (2 : Nat) ^ 64 = 18446744073709551616 := by decide
                                       omega) (by omega) (by omega)]
  unfold sj154 Gj154
  rw [law_Split, hbits]
  rw [hsg]
  have n2047 : (((b / 4503599627370496 % 2048 : Nat) : Int) == 2047) = false := by simp; omega
  rw [n2047, cond_false]
  rcases h3 with ⟨g1, g2, g3⟩ | ⟨g1, g2, g3⟩
  · have e0 : b / 4503599627370496 % 2048 = 0 := by omega
    have e1 : b % 4503599627370496 = m := by omega
    rw [e0, e1, decide_eq_false (by decide), cond_false]
    exact fin 0 (by omega) (by omega) (by omega)
  · have e0 : 0 < b / 4503599627370496 % 2048 := by omega
    have e1 : IntKind.wrap .u64 (((b % 4503599627370496 : Nat) : Int) + 4503599627370496) = (m : Int) := by rw [wrap64]; omega
    rw [decide_eq_true (by omega : ((b / 4503599627370496 % 2048 : Nat) : Int) > 0), cond_true, and_tr (fits_ok (by omega) (by omega)), e1]
    exact fin _ (by omega) (by omega) (by omega)
theorem law_Of {N : Nat} (hN : 1000 <= N) {x : Fl} (hx : finF x = true) (hw : FW x) (k : Int -> Bool -> List Int -> Bool) : sj189 N x k = exK (ofE x) k := by
  obtain ⟨b, s, m, i, rfl, h⟩ := finF_num hx
  have hb := hw b rfl
  unfold sj189 Gj189
  rw [law_Parts hN hb h, ofE_num h]
  by_cases h0 : m = 0
  · rw [if_pos h0, if_pos h0]
    have : ∀ κ, sj54 N 0 false κ = κ false (digs 0) := fun κ => law_SetUint64 (N := N) 0 (by decide) false (short_small hN (by decide)) (by omega) κ
    rw [this]
    cases s
    · rw [cond_false]; unfold exK; rfl
    · rw [cond_true, law_Neg_r _ _ (short_small hN (by decide))]; unfold exK intK; rfl
  · rw [if_neg h0, if_neg h0]
    have hpl := place_le h
    obtain ⟨g1, g2, g3, g4⟩ := odd2_facts 64 m i h0 (by have : (2 : Nat) ^ 64 = 18446744073709551616 := by decide
                                                        omega)
    have hs := short_small (N := N) (n := (odd2 64 m i).1) hN (by omega)
    rw [law_SetUint64 (N := N) _ (by omega) false hs (by omega)]
    cases s
    · rw [cond_false]
      show _ = k (odd2 64 m i).2 (decide ((((odd2 64 m i).1 : Nat) : Int) < 0)) (digs (((odd2 64 m i).1 : Nat) : Int).natAbs)
      rw [decide_eq_false (by omega), Int.natAbs_natCast]
    · rw [cond_true, law_Neg_r _ _ hs]; rfl

def EV (x : Int × Int) (v : Int) (E : Nat) : Prop := 0 <= x.1 + E /\ x.2 * 2 ^ (x.1 + E).toNat = v
theorem EV.up {x : Int × Int} {v : Int} {E : Nat} (h : EV x v E) (F : Nat) : EV x (v * 2 ^ F) (E + F) := by
  obtain ⟨h1, h2⟩ := h
  refine ⟨by omega, ?_⟩
  have : (x.1 + ((E + F : Nat) : Int)).toNat = (x.1 + E).toNat + F := by omega
  rw [this, Int.pow_add, <- Int.mul_assoc, h2]
theorem EV.mul {x y : Int × Int} {v w : Int} {E F : Nat} (h : EV x v E) (g : EV y w F) : EV (exMul x y) (v * w) (E + F) := by
  obtain ⟨h1, h2⟩ := h
  obtain ⟨g1, g2⟩ := g
  refine ⟨by simp only [exMul]; omega, ?_⟩
  have : ((exMul x y).1 + ((E + F : Nat) : Int)).toNat = (x.1 + E).toNat + (y.1 + F).toNat := by simp only [exMul]; omega
  rw [this, Int.pow_add, <- h2, <- g2]
  simp only [exMul]
  ac_rfl
theorem EV.neg {x : Int × Int} {v : Int} {E : Nat} (h : EV x v E) : EV (exNeg x) (-v) E := ⟨h.1, by rw [<- h.2]; exact Int.neg_mul _ _⟩
theorem exLow_val {x : Int × Int} {v : Int} {E : Nat} (h : EV x v E) {e : Int} (he : e <= x.1) (hE : 0 <= e + E) : exLow x e * 2 ^ (e + E).toNat = v := by
  unfold exLow
  rw [Int.mul_assoc, <- Int.pow_add, show (x.1 - e).toNat + (e + E).toNat = (x.1 + E).toNat by omega]
  exact h.2
theorem EV.add {x y : Int × Int} {v w : Int} {E : Nat} (h : EV x v E) (g : EV y w E) : EV (exAdd x y) (v + w) E := by
  unfold exAdd
  split
  · rename_i h0
    have : v = 0 := by rw [<- h.2, h0, Int.zero_mul]
    rw [this, Int.zero_add]; exact g
  · split
    · rename_i h0
      have : w = 0 := by rw [<- g.2, h0, Int.zero_mul]
      rw [this, Int.add_zero]; exact h
    · have hE : 0 <= min x.1 y.1 + E := by have := h.1; have := g.1; omega
      exact ⟨hE, by rw [Int.add_mul, exLow_val h (by omega) hE, exLow_val g (by omega) hE]⟩
theorem EV.sgn {x : Int × Int} {v : Int} {E : Nat} (h : EV x v E) : sgnI x.2 = sgnI v := by
  rw [<- h.2]
  have hp := pow2_pos (x.1 + E).toNat
  unfold sgnI
  rcases Int.lt_trichotomy x.2 0 with h | h | h
  · have := Int.mul_neg_of_neg_of_pos h hp
    rw [if_neg (by omega), if_pos h, if_neg (by omega), if_pos this]
  · rw [h, Int.zero_mul]
  · have := Int.mul_pos h hp
    rw [if_neg (by omega), if_neg (by omega), if_neg (by omega), if_neg (by omega)]
theorem EV_zero (E : Nat) : EV (0, 0) 0 E := ⟨by simp only []; omega, Int.zero_mul _⟩

theorem Ex.mono {E B E' B' : Nat} {x : Int × Int} (h : Ex E B x) (hE : E <= E') (hB : B <= B') : Ex E' B' x := ⟨by have := h.1; omega, by have := h.2.1; omega, bits_mono h.2.2 hB⟩
theorem Ex.mul {E B E' B' : Nat} {x y : Int × Int} (h : Ex E B x) (g : Ex E' B' y) : Ex (E + E') (B + B') (exMul x y) :=
  ⟨by have := h.1; have := g.1; simp only [exMul]; omega, by have := h.2.1; have := g.2.1; simp only [exMul]; omega, by
    show Bits _ (x.2 * y.2).natAbs
    rw [Int.natAbs_mul]; exact bits_mul h.2.2 g.2.2⟩
theorem Ex.neg {E B : Nat} {x : Int × Int} (h : Ex E B x) : Ex E B (exNeg x) := ⟨h.1, h.2.1, by show Bits _ (-x.2).natAbs; rw [Int.natAbs_neg]; exact h.2.2⟩
theorem low_bits {E B : Nat} {x : Int × Int} (h : Ex E B x) {e : Int} (he : -(E : Int) <= e) : Bits (B + 2 * E) (exLow x e).natAbs := by
  unfold exLow
  rw [Int.natAbs_mul, Int.natAbs_pow]
  refine bits_mono (bits_shift h.2.2 _) ?_
  have := h.2.1; omega
theorem Ex.add {E B : Nat} {x y : Int × Int} (h : Ex E B x) (g : Ex E B y) : Ex E (B + 2 * E + 1) (exAdd x y) := by
  unfold exAdd
  split
  · exact g.mono (Nat.le_refl _) (by omega)
  · split
    · exact h.mono (Nat.le_refl _) (by omega)
    · refine ⟨by have := h.1; have := g.1; show -(E : Int) <= min x.1 y.1; omega, by have := h.2.1; show min x.1 y.1 <= E; omega, ?_⟩
      have h1 := low_bits h (e := min x.1 y.1) (by have := h.1; have := g.1; omega)
      have h2 := low_bits g (e := min x.1 y.1) (by have := h.1; have := g.1; omega)
      exact bits_le (bits_add h1 h2) (Int.natAbs_add_le _ _)

theorem intK_mk (z : Int) (k : Bool -> List Int -> Bool) : intK z k = k (decide (z < 0)) (digs z.natAbs) := rfl
theorem law_ExMul {N : Nat} (hN : 1000 <= N) {E B : Nat} {x y : Int × Int} (hx : Ex E B x) (hy : Ex E B y) (hE : E <= 100000) (hB : B <= 15000) (k : Int -> Bool -> List Int -> Bool) :
    sj24 N x.1 y.1 (decide (x.2 < 0)) (digs x.2.natAbs) (decide (y.2 < 0)) (digs y.2.natAbs) k = exK (exMul x y) k := by
  have h1 := bits_len hx.2.2
  have h2 := bits_len hy.2.2
  unfold sj24 Gj24
  rw [law_IntMul _ _ _ _ _ (by omega) (by omega), ival_nat, ival_nat, intK_mk, and_tr (fits_ok (by have := hx.1; have := hy.1; omega) (by have := hx.2.1; have := hy.2.1; omega))]
  rfl
theorem law_Low {N : Nat} (hN : 1000 <= N) {E B : Nat} {x : Int × Int} (hx : Ex E B x) {e : Int} (he : -(E : Int) <= e) (hB : B + 2 * E <= 30000) (k0 : Bool) (k1 : Bool -> List Int -> Bool) (h0 : x.1 <= e -> k0 = intK x.2 k1) (he2 : x.1 <= e -> e = x.1) :
    sj32 N x.1 e (decide (x.2 < 0)) (digs x.2.natAbs) k0 k1 = intK (exLow x e) k1 := by
  unfold sj32 Gj32
  have hx1 := hx.1
  have hx2 := hx.2.1
  by_cases hc : x.1 <= e
  · rw [decide_eq_true (by omega : e >= x.1), cond_true, h0 hc]
    have : exLow x e = x.2 := by
      unfold exLow
      rw [he2 hc, Int.sub_self]; simp
    rw [this]
  · rw [decide_eq_false (by omega : ¬ e >= x.1), cond_false, and_tr (fits_ok (by omega) (by omega))]
    have ew : IntKind.wrap .u64 (x.1 - e) = (((x.1 - e).toNat : Nat) : Int) := by rw [wrap64]; omega
    rw [ew, law_Lsh_n _ _ _ _ (bits_shOk hN (by omega) hx.2.2)]
    congr 1
    unfold exLow ival
    by_cases hz : x.2 < 0
    · rw [decide_eq_true hz, if_pos rfl, Int.natCast_mul, Int.natCast_pow, <- Int.neg_mul]
      congr 1; omega
    · rw [decide_eq_false hz, if_neg (by decide), Int.natCast_mul, Int.natCast_pow]
      congr 1; omega
theorem law_ExAdd {N : Nat} (hN : 1000 <= N) {E B : Nat} {x y : Int × Int} (hx : Ex E B x) (hy : Ex E B y) (hB : B + 2 * E <= 29000) (k0 k1 : Bool) (k2 : Int -> Bool -> List Int -> Bool) (h0 : k0 = exK y k2) (h1 : k1 = exK x k2) :
    sj8 N x.1 y.1 (decide (x.2 < 0)) (digs x.2.natAbs) (decide (y.2 < 0)) (digs y.2.natAbs) k0 k1 k2 = exK (exAdd x y) k2 := by
  unfold sj8 Gj8 exAdd
  have z0 : ∀ (z : Int) (g : Bool), ((if z.natAbs = 0 then (0 : Int) else if g = true then -1 else 1) == 0) = decide (z = 0) := by
    intro z g
    by_cases h : z = 0
    · rw [if_pos (by omega), decide_eq_true h]; rfl
    · rw [if_neg (by omega), decide_eq_false h]; cases g <;> rfl
  rw [law_Sign_r, z0, law_Sign_r, z0]
  by_cases c0 : x.2 = 0
  · rw [decide_eq_true c0, cond_true, if_pos c0, h0]
  · rw [decide_eq_false c0, cond_false, if_neg c0]
    by_cases c1 : y.2 = 0
    · rw [decide_eq_true c1, cond_true, if_pos c1, h1]
    · rw [decide_eq_false c1, cond_false, if_neg c1, imm_min]
      have hxe := hx.1
      have hye := hy.1
      have lx := low_bits hx (e := min x.1 y.1) (by omega)
      have ly := low_bits hy (e := min x.1 y.1) (by omega)
      have hadd : ∀ (a b : Int), Bits (B + 2 * E) a.natAbs -> Bits (B + 2 * E) b.natAbs -> sj51 N false (decide (a < 0)) (digs a.natAbs) (decide (b < 0)) (digs b.natAbs) (fun cr nsr => k2 (min x.1 y.1) cr nsr) = exK (min x.1 y.1, a + b) k2 := by
        intro a b ha hb
        rw [law_IntAdd _ _ _ _ _ (bits_short hN (by omega) ha) (bits_short hN (by omega) hb) (bits_short hN (by omega) (bits_add ha hb)), ival_nat, ival_nat]
        rfl
      have hyl : ∀ (a : Int), Bits (B + 2 * E) a.natAbs -> sj32 N y.1 (min x.1 y.1) (decide (y.2 < 0)) (digs y.2.natAbs) (sj51 N false (decide (a < 0)) (digs a.natAbs) (decide (y.2 < 0)) (digs y.2.natAbs) (fun cr nsr => k2 (min x.1 y.1) cr nsr)) (fun g d => sj51 N false (decide (a < 0)) (digs a.natAbs) g d (fun cr nsr => k2 (min x.1 y.1) cr nsr)) = exK (min x.1 y.1, a + exLow y (min x.1 y.1)) k2 := by
        intro a ha
        rw [law_Low hN hy (by omega) (by omega) _ _ (fun _ => by rw [intK_mk]) (by omega), intK_mk, hadd _ _ ha ly]
      rw [law_Low hN hx (by omega) (by omega) _ _ (fun h => by
        rw [intK_mk]) (by omega), intK_mk, hyl _ lx]
theorem law_ExCmp {N : Nat} (hN : 1000 <= N) {E B : Nat} {x y : Int × Int} (hx : Ex E B x) (hy : Ex E B y) (hB : B + 2 * E <= 28000) (k : Int -> Bool) :
    sj53 N x.1 y.1 (decide (x.2 < 0)) (digs x.2.natAbs) (decide (y.2 < 0)) (digs y.2.natAbs) k = k (sgnI (exAdd x (exNeg y)).2) := by
  unfold sj53 Gj53 sj70 Gj70
  rw [law_Neg_n _ _ _ (bits_short hN (by omega) hy.2.2), ival_nat, intK_mk]
  have sg : ∀ (z : Int), sj38 N (decide (z < 0)) (digs z.natAbs) (fun nr => k nr) = k (sgnI z) := by
    intro z
    rw [law_Sign_r]
    unfold sgnI
    congr 1
    by_cases h : z = 0
    · rw [if_pos (by omega), if_pos h]
    · rw [if_neg (by omega), if_neg h]
      by_cases hl : z < 0
      · rw [if_pos (decide_eq_true hl), if_pos hl]
      · rw [if_neg (by rw [decide_eq_false hl]; decide), if_neg hl]
  have := law_ExAdd (N := N) hN hx (Ex.neg hy) (by omega) (sj38 N (decide (-y.2 < 0)) (digs (-y.2).natAbs) (fun nr => k nr)) (sj38 N (decide (x.2 < 0)) (digs x.2.natAbs) (fun nr => k nr)) (fun _ g d => sj38 N g d (fun nr => k nr)) rfl rfl
  refine Eq.trans this ?_
  unfold exK
  exact sg _

def dotE (a b : List Fl) : Nat -> Int × Int
  | 0 => (0, 0)
  | n + 1 => exAdd (dotE a b n) (exMul (ofE (a.getD n none)) (ofE (b.getD n none)))
theorem ofE_Ex {x : Fl} (hx : finF x = true) : Ex 1100 53 (ofE x) := by
  obtain ⟨b, s, m, i, rfl, h⟩ := finF_num hx
  rw [ofE_num h]
  have hpl := place_le h
  have hpg := place_ge h
  by_cases h0 : m = 0
  · rw [if_pos h0]; exact ⟨by decide, by decide, Nat.two_pow_pos _⟩
  · rw [if_neg h0]
    obtain ⟨g1, g2, g3, g4⟩ := odd2_facts 64 m i h0 (by have : (2 : Nat) ^ 64 = 18446744073709551616 := by decide
                                                        omega)
    refine ⟨by show -((1100 : Nat) : Int) <= (odd2 64 m i).2; omega, by show (odd2 64 m i).2 <= ((1100 : Nat) : Int); omega, ?_⟩
    show Bits 53 (ival s (odd2 64 m i).1).natAbs
    have : (ival s (odd2 64 m i).1).natAbs = (odd2 64 m i).1 := by unfold ival; cases s <;> simp
    rw [this]
    show _ < 2 ^ 53
    have : (2 : Nat) ^ 53 = 9007199254740992 := by decide
    omega
theorem ofE_EV {b : Nat} {s : Bool} {m : Nat} {i : Int} (h : Ieee.double.read b = .number s m i) {E : Nat} (hE : 1074 <= E) : EV (ofE (some b)) (signed s m (i + E).toNat) E := by
  rw [ofE_num h]
  have hpg := place_ge h
  by_cases h0 : m = 0
  · rw [if_pos h0]; subst h0; rw [signed_zero]; exact EV_zero E
  · rw [if_neg h0]
    have hpl := place_le h
    obtain ⟨g1, g2, g3, g4⟩ := odd2_facts 64 m i h0 (by have : (2 : Nat) ^ 64 = 18446744073709551616 := by decide
                                                        omega)
    refine ⟨by show 0 <= (odd2 64 m i).2 + (E : Int); omega, ?_⟩
    show ival s (odd2 64 m i).1 * 2 ^ ((odd2 64 m i).2 + E).toNat = _
    generalize odd2 64 m i = q at *
    have e1 : (q.2 + E).toNat = (q.2 - i).toNat + (i + E).toNat := by omega
    unfold ival signed
    rw [Nat.shiftLeft_eq, e1, Int.pow_add, <- g3]
    cases s
    · simp only [Bool.false_eq_true, if_false]
      rw [Int.natCast_mul, Int.natCast_mul, Int.natCast_pow, Int.natCast_pow]; rw [show ((2 : Nat) : Int) = 2 from rfl]; ac_rfl
    · simp only [if_true]
      rw [Int.natCast_mul, Int.natCast_mul, Int.natCast_pow, Int.natCast_pow]; rw [show ((2 : Nat) : Int) = 2 from rfl]
      rw [Int.neg_mul]; congr 1; ac_rfl
end Go.Proofs.YtccocdgimamdhaaGreatDoor
