/-
  PURE: laws of the seat's functions, taken over from another seat of mine.
  Conditions: none.
-/
import Derived.Test.YtgngdkjghdohiaaGreatL1
namespace Go.Proofs.YtgngdkjghdohiaaGreat
open Go Go.Mach Ieee
set_option linter.unusedVariables false

theorem mul_num (V x Bk bk i k : Nat) : V % 4294967296 ^ (i + k + 1) + x * (Bk + 4294967296 ^ k * bk) * 4294967296 ^ i = (V % 4294967296 ^ (i + k) + x * Bk * 4294967296 ^ i) + 4294967296 ^ (i + k) * (V / 4294967296 ^ (i + k) % 4294967296 + x * bk) := by
  rw [Nat.mod_pow_succ, Nat.pow_add]
  grind
theorem carry_step (V x Bk bk i k : Nat) : (V % 4294967296 ^ (i + k + 1) + x * (Bk + 4294967296 ^ k * bk) * 4294967296 ^ i) / 4294967296 ^ (i + k + 1) = ((V % 4294967296 ^ (i + k) + x * Bk * 4294967296 ^ i) / 4294967296 ^ (i + k) + V / 4294967296 ^ (i + k) % 4294967296 + x * bk) / 4294967296 := by
  rw [mul_num, Nat.pow_succ, <- Nat.div_div_eq_div_mul, Nat.add_mul_div_left _ _ (Nat.pow_pos (by decide)), Nat.add_assoc]
theorem carry_digit (V x Bk bk i k R : Nat) : (V + x * (Bk + 4294967296 ^ k * bk + 4294967296 ^ (k + 1) * R) * 4294967296 ^ i) / 4294967296 ^ (i + k) % 4294967296 = ((V % 4294967296 ^ (i + k) + x * Bk * 4294967296 ^ i) / 4294967296 ^ (i + k) + V / 4294967296 ^ (i + k) % 4294967296 + x * bk) % 4294967296 := by
  have e : V + x * (Bk + 4294967296 ^ k * bk + 4294967296 ^ (k + 1) * R) * 4294967296 ^ i = (V % 4294967296 ^ (i + k + 1) + x * (Bk + 4294967296 ^ k * bk) * 4294967296 ^ i) + 4294967296 ^ (i + k + 1) * (V / 4294967296 ^ (i + k + 1) + x * R) := by
    have h := Nat.div_add_mod V (4294967296 ^ (i + k + 1))
    have h2 : 4294967296 ^ (i + k + 1) = 4294967296 ^ (k + 1) * 4294967296 ^ i := by rw [<- Nat.pow_add]; congr 1; omega
    generalize V / 4294967296 ^ (i + k + 1) = q at *
    generalize V % 4294967296 ^ (i + k + 1) = r at *
    rw [<- h, h2]
    grind
  rw [digit_of e, mul_num, Nat.add_mul_div_left _ _ (Nat.pow_pos (by decide)), Nat.add_assoc]
theorem carry_lt {V x Bk i k : Nat} (hx : x < 4294967296) (hB : Bk < 4294967296 ^ k) : (V % 4294967296 ^ (i + k) + x * Bk * 4294967296 ^ i) / 4294967296 ^ (i + k) < 4294967296 := by
  rw [Nat.div_lt_iff_lt_mul (Nat.pow_pos (by decide))]
  have h1 : V % 4294967296 ^ (i + k) < 4294967296 ^ (i + k) := Nat.mod_lt _ (Nat.pow_pos (by decide))
  have h2 : x * Bk <= 4294967295 * 4294967296 ^ k := Nat.mul_le_mul (by omega) (by omega)
  have h3 : x * Bk * 4294967296 ^ i <= 4294967295 * 4294967296 ^ (i + k) := by
    have := Nat.mul_le_mul_right (4294967296 ^ i) h2
    rwa [Nat.mul_assoc 4294967295, <- Nat.pow_add, Nat.add_comm k i] at this
  omega
theorem dl_getD (S : Nat) {L i : Nat} (h : i < L) : (dl S L).getD i 0 = ((S / 4294967296 ^ i % 4294967296 : Nat) : Int) := by
  induction L with
  | zero => omega
  | succ L ih =>
    show ((dl S L) ++ [_]).getD i 0 = _
    rw [List.getD_eq_getElem?_getD]
    by_cases hi : i < L
    · rw [List.getElem?_append_left (by rw [dl_length]; exact hi), <- List.getD_eq_getElem?_getD, ih hi]
    · have : i = L := by omega
      subst this
      rw [List.getElem?_append_right (by rw [dl_length]; exact Nat.le_refl _), dl_length, Nat.sub_self]; rfl
theorem drop_cons {l : List Int} {n : Nat} (h : n < l.length) : l.drop n = l.getD n 0 :: l.drop (n + 1) := by
  rw [List.drop_eq_getElem_cons h, List.getD_eq_getElem?_getD, List.getElem?_eq_getElem h]; rfl
theorem mval_take_succ' {b : List Int} {k : Nat} : mval (b.take (k + 1)) = mval (b.take k) + 4294967296 ^ k * (b.getD k 0).toNat := mval_take_all k
theorem dl_mid_set (U V L p : Nat) (h : p < L) : (dl U p ++ (dl V L).drop p).set p ((U / 4294967296 ^ p % 4294967296 : Nat) : Int) = dl U (p + 1) ++ (dl V L).drop (p + 1) := by
  rw [drop_cons (by rw [dl_length]; exact h), set_append_at _ _ _ _ _ (by rw [dl_length])]
  show _ = (dl U p ++ [_]) ++ _
  rw [List.append_assoc]; rfl
theorem dl_mid_get (U V L p : Nat) (h : p < L) : (dl U p ++ (dl V L).drop p).getD p 0 = ((V / 4294967296 ^ p % 4294967296 : Nat) : Int) := by
  rw [drop_cons (by rw [dl_length]; exact h), getD_append_at (by rw [dl_length]), dl_getD V h]
theorem dl_mid_len (U V L p : Nat) (h : p <= L) : (dl U p ++ (dl V L).drop p).length = L := by simp [dl_length]; omega
theorem dl_beyond {U L p : Nat} (hU : U < 4294967296 ^ p) (h : p <= L) {V : Nat} (hV : V < 4294967296 ^ p) : dl U p ++ (dl V L).drop p = dl U L := by
  induction L with
  | zero =>
    have : p = 0 := by omega
    subst this; rfl
  | succ L ih =>
    by_cases hp : p = L + 1
    · subst hp; rw [List.drop_of_length_le (by rw [dl_length]; omega), List.append_nil]
    · have hpL : p <= L := by omega
      have e : ∀ X, X < 4294967296 ^ p -> dl X (L + 1) = dl X L ++ [0] := by
        intro X hX
        show dl X L ++ [((X / 4294967296 ^ L % 4294967296 : Nat) : Int)] = _
        rw [Nat.div_eq_of_lt (Nat.lt_of_lt_of_le hX (Nat.pow_le_pow_right (by decide) hpL))]; rfl
      rw [e V hV, e U hU, List.drop_append_of_le_length (by rw [dl_length]; exact hpL), <- List.append_assoc, ih hpL]
theorem mval_bound {a : List Int} (ha : InW a) (i : Nat) : mval (a.take i) < 4294967296 ^ i := mval_take_lt ha i
theorem mul_lt_pow {x y i j : Nat} (hx : x < 4294967296 ^ i) (hy : y < 4294967296 ^ j) : x * y < 4294967296 ^ (i + j) := by
  rw [Nat.pow_add]
  exact Nat.mul_lt_mul'' hx hy
theorem law_times {N : Nat} (a b : List Int) (ha : InW a) (hb : InW b) (hN : a.length + b.length + 2 < N) (hs : a.length + b.length <= 17592186044416) (k : List Int -> Bool) : sZ60 N a b k = k (digs (mval a * mval b)) := by
  unfold sZ60 GZ60
  have eL : Int.toNat (((a.length : Nat) : Int) + ((b.length : Nat) : Int)) = a.length + b.length := by omega
  rw [and_tr (fits_ok (by omega) (by omega)), and_tr (mkOk_ok (by omega) (by omega) (by omega) (by omega)), eL]
  let L := a.length + b.length
  let B := mval b
  have hB : B < 4294967296 ^ b.length := mval_lt hb
  refine iterG_from0 (fun i => ((i : Int), dl (mval (a.take i) * B) L)) a.length ?_ (by omega) (fun i hi K => ?_) (fun K => ?_)
  · show ((0 : Int), List.replicate L (0 : Int)) = (((0 : Nat) : Int), dl (mval (a.take 0) * B) L)
    have := dl_of_zero L 0
    rw [Nat.mul_zero] at this
    rw [List.take_zero, show mval [] = 0 from rfl, Nat.zero_mul, this]; rfl
  · simp only [st_z00_times_0]
    rw [decide_eq_true (by omega : (i : Int) < a.length), cond_true]
    have hx := ha.at (i := i)
    let V := mval (a.take i) * B
    let x := (a.getD i 0).toNat
    let U := mval (a.take (i + 1)) * B
    have hU : U = V + x * B * 4294967296 ^ i := by
      simp only [U, V, x]
      rw [mval_take_succ']
      grind
    have hV : V < 4294967296 ^ (i + b.length) := mul_lt_pow (mval_bound ha i) hB
    have hUl : U < 4294967296 ^ (i + 1 + b.length) := mul_lt_pow (mval_bound ha (i + 1)) hB
    let c := fun j => (V % 4294967296 ^ (i + j) + x * mval (b.take j) * 4294967296 ^ i) / 4294967296 ^ (i + j)
    refine iterG_from0 (fun j => (((c j : Nat) : Int), (j : Int), dl U (i + j) ++ (dl V L).drop (i + j))) b.length ?_ (by omega) (fun j hj K' => ?_) (fun K' => ?_)
    · show ((0 : Int), (0 : Int), dl V L) = _
      have h0 : c 0 = 0 := by
        simp only [c, List.take_zero, show mval [] = 0 from rfl, Nat.mul_zero, Nat.zero_mul, Nat.add_zero]
        exact Nat.div_eq_of_lt (Nat.mod_lt _ (Nat.pow_pos (by decide)))
      have hlow : dl U i = dl V i := by
        have : ∀ n, n <= i -> dl U n = dl V n := by
          intro n
          induction n with
          | zero => intro _; rfl
          | succ n ih =>
            intro hn
            show dl U n ++ [_] = dl V n ++ [_]
            rw [ih (by omega)]
            congr 3
            have : U = V + 4294967296 ^ (n + 1) * (x * B * 4294967296 ^ (i - (n + 1))) := by
              rw [hU, Nat.mul_left_comm, <- Nat.pow_add, show n + 1 + (i - (n + 1)) = i by omega]
            exact digit_of this
        exact this i (Nat.le_refl _)
      have hsp : dl V i ++ (dl V L).drop i = dl V L := by
        have : ∀ n, i <= n -> dl V i ++ (dl V n).drop i = dl V n := by
          intro n
          induction n with
          | zero => intro h; have : i = 0 := by omega
                    subst this; rfl
          | succ n ih =>
            intro h
            by_cases hn : i = n + 1
            · subst hn; rw [List.drop_of_length_le (by rw [dl_length]; omega), List.append_nil]
            · show dl V i ++ (dl V n ++ [_]).drop i = dl V n ++ [_]
              rw [List.drop_append_of_le_length (by rw [dl_length]; omega), <- List.append_assoc, ih (by omega)]
        exact this L (by simp only [L]; omega)
      rw [h0, Nat.add_zero, hlow, hsp]; rfl
    · have hy := hb.at (i := j)
      have hp : i + j < L := by simp only [L]; omega
      have hlen := dl_mid_len U V L (i + j) (by omega)
      have hget := dl_mid_get U V L (i + j) hp
      have hset := dl_mid_set U V L (i + j) hp
      have hc := carry_lt (V := V) (x := x) (i := i) (k := j) (Bk := mval (b.take j)) (by simp only [x]; omega) (mval_bound hb j)
      have hstep := carry_step V x (mval (b.take j)) (b.getD j 0).toNat i j
      obtain ⟨R, hR⟩ := mval_split_ge b (j + 1)
      have hdig := carry_digit V x (mval (b.take j)) (b.getD j 0).toNat i j R
      rw [<- mval_take_succ'] at hstep hdig
      rw [<- hR] at hdig
      have hUe : V + x * mval b * 4294967296 ^ i = U := hU.symm
      rw [hUe] at hdig
      have hxy : x * (b.getD j 0).toNat <= 4294967295 * 4294967295 := Nat.mul_le_mul (by simp only [x]; omega) (by omega)
      have eidx : Int.toNat ((i : Int) + (j : Int)) = i + j := by omega
      have hcj : ∀ n, c n = (V % 4294967296 ^ (i + n) + x * mval (b.take n) * 4294967296 ^ i) / 4294967296 ^ (i + n) := fun _ => rfl
      have hax : a.getD i 0 = (x : Int) := by simp only [x]; omega
      have hby : b.getD j 0 = ((b.getD j 0).toNat : Int) := by omega
      simp only [st_z00_times_2, Int.toNat_natCast, eidx, hlen, hget]
      rw [decide_eq_true (by omega : (j : Int) < b.length), cond_true, and_tr (inR_of (by omega) (by omega)), and_tr (inR_of (by omega) (by omega)), and_tr (fits_ok (by omega) (by omega)), and_tr (inR_of (by omega) (by omega)), and_tr (decide_eq_true (by omega)), and_tr (fits_ok (by omega) (by omega)), and_tr (inR_of (by omega) (by omega)), and_tr (decide_eq_true (by omega)), and_tr (fits_ok (by omega) (by omega))]
      have ec1 : c (j + 1) = (c j + V / 4294967296 ^ (i + j) % 4294967296 + x * (b.getD j 0).toNat) / 4294967296 := hstep
      have ed : U / 4294967296 ^ (i + j) % 4294967296 = (c j + V / 4294967296 ^ (i + j) % 4294967296 + x * (b.getD j 0).toNat) % 4294967296 := hdig
      have hcl : c j < 4294967296 := hc
      rw [ed] at hset
      have vlt : V / 4294967296 ^ (i + j) % 4294967296 < 4294967296 := Nat.mod_lt _ (by decide)
      rw [hax, hby, show i + (j + 1) = i + j + 1 by omega, <- hset]
      generalize V / 4294967296 ^ (i + j) % 4294967296 = v at *
      generalize (b.getD j 0).toNat = y at *
      generalize dl U (i + j) ++ (dl V L).drop (i + j) = l at *
      have et : ∀ q : Nat, q = c j + v + x * y -> IntKind.wrap .u64 ((IntKind.wrap .u64 ((IntKind.wrap .u64 ((IntKind.wrap .u64 (x : Int)) * (IntKind.wrap .u64 (y : Int)))) + (IntKind.wrap .u64 (v : Int)))) + ((c j : Nat) : Int)) = (q : Int) := by
        intro q hq
        have exy : ((x : Int)) * (y : Int) = ((x * y : Nat) : Int) := by rw [Int.natCast_mul]
        have hxl : x < 4294967296 := by simp only [x]; omega
        have hyl : y < 4294967296 := by omega
        have w1 : IntKind.wrap .u64 (x : Int) = x := by rw [wrap64]; omega
        have w2 : IntKind.wrap .u64 (y : Int) = y := by rw [wrap64]; omega
        rw [w1, w2, exy, wrap64, wrap64, wrap64, wrap64]
        omega
      rw [et _ rfl, ec1, fdiv32, wrap32]
      congr 1
    · simp only [st_z00_times_2]
      rw [decide_eq_false (by omega : ¬ (b.length : Int) < b.length), cond_false]
      have hlen := dl_mid_len U V L (i + b.length) (by simp only [L]; omega)
      have hset := dl_mid_set U V L (i + b.length) (by simp only [L]; omega)
      have eidx : Int.toNat ((i : Int) + (b.length : Int)) = i + b.length := by omega
      have hLe : i + b.length < L := by simp only [L]; omega
      have hc : c b.length = U / 4294967296 ^ (i + b.length) := by
        simp only [c]
        rw [List.take_length, Nat.mod_eq_of_lt hV, hU]
      have hcl : U / 4294967296 ^ (i + b.length) < 4294967296 := by
        rw [Nat.div_lt_iff_lt_mul (Nat.pow_pos (by decide))]
        have : i + 1 + b.length = i + b.length + 1 := by omega
        rw [this, Nat.pow_succ] at hUl
        omega
      have ew : IntKind.wrap .u32 ((c b.length : Nat) : Int) = ((U / 4294967296 ^ (i + b.length) % 4294967296 : Nat) : Int) := by rw [wrap32, hc]; omega
      have hfin := dl_beyond (U := U) (V := V) (L := L) (p := i + b.length + 1) (by rw [show i + b.length + 1 = i + 1 + b.length by omega]; exact hUl) (by omega) (Nat.lt_of_lt_of_le hV (Nat.pow_le_pow_right (by decide) (by omega)))
      rw [and_tr (fits_ok (by omega) (by omega)), eidx, hlen, and_tr (inR_of (by omega) (by omega)), and_tr (decide_eq_true (by omega)), and_tr (fits_ok (by omega) (by omega)), ew, hset, hfin]
      rfl
  · simp only [st_z00_times_0]
    rw [decide_eq_false (by omega : ¬ (a.length : Int) < a.length), cond_false, List.take_length, law_cut_take _ (dl_inW _ _) (by rw [dl_length]; simp only [L]; omega) (by rw [dl_length]; simp only [L]; omega)]
    rw [digs_dl (mul_lt_pow (mval_lt ha) hB)]

theorem ival_mul (g h : Bool) (m n : Nat) : ival (g != h) (m * n) = ival g m * ival h n := by
  unfold ival
  rw [Int.natCast_mul]
  cases g <;> cases h <;> simp [Int.neg_mul, Int.mul_neg]
theorem law_IntMul {N : Nat} (b g h : Bool) (m n : Nat) (hN : (digs m).length + (digs n).length + 4 < N) (hs : (digs m).length + (digs n).length <= 17592186044416) (k : Bool -> List Int -> Bool) :
    sZ28 N b g (digs m) h (digs n) k = intK (ival g m * ival h n) k := by
  unfold sZ28 GZ28
  have hl : (digs (m * n)).length <= (digs m).length + (digs n).length := by
    refine digs_len_le _ _ (mul_lt_pow ?_ ?_)
    · have := mval_lt (digs_inW m); rwa [mval_digs] at this
    · have := mval_lt (digs_inW n); rwa [mval_digs] at this
  rw [law_times _ _ (digs_inW m) (digs_inW n) (by omega) hs, mval_digs, mval_digs, law_put_n _ _ _ (digs_inW _) ⟨by omega, by omega⟩, mval_digs, put_val _ _ k, ival_mul]
theorem cut_full (n : Nat) : cutLen (digs n) (digs n).length = (digs n).length := by
  have ht : (digs n).take (cutLen (digs n) (digs n).length) = digs n := by rw [take_cutLen (digs_inW n), mval_digs]
  have hc := cutLen_le (digs n) (digs n).length
  have := congrArg List.length ht
  rw [List.length_take] at this; omega
theorem neg_val (g : Bool) (n : Nat) (k : Bool -> List Int -> Bool) : cond ((!g) == true) (k (decide (((digs n).length : Int) > 0)) (digs n)) (k false (digs n)) = intK (-(ival g n)) k := by
  rw [put_k, put_val _ _ k]
  congr 1
  unfold ival; cases g <;> simp
theorem law_Neg_n {N : Nat} (b g : Bool) (n : Nat) (hN : Short N (digs n)) (k : Bool -> List Int -> Bool) : sZ52 N b g (digs n) k = intK (-(ival g n)) k := by
  unfold sZ52 GZ52 sZ32 GZ32
  obtain ⟨h1, h2⟩ := hN
  rw [List.nil_append, decide_eq_true (by omega), Bool.true_and, law_cut_w _ (by omega) (by omega), cut_full]
  simp only [List.drop_zero, List.take_length]
  rw [decide_eq_true (by omega : 0 + (digs n).length <= (digs n).length), Bool.true_and]
  exact neg_val g n k
theorem law_Neg_r {N : Nat} (g : Bool) (n : Nat) (hN : Short N (digs n)) (k : Bool -> List Int -> Bool) : sZ66 N g (digs n) k = intK (-(ival g n)) k := by
  unfold sZ66 GZ66 sZ69 GZ69
  obtain ⟨h1, h2⟩ := hN
  rw [List.nil_append, decide_eq_true (by omega), Bool.true_and, law_cut_w _ (by omega) (by omega), cut_full]
  simp only [List.drop_zero, List.take_length]
  rw [decide_eq_true (by omega : 0 + (digs n).length <= (digs n).length), Bool.true_and]
  exact neg_val g n k
theorem law_IntAdd {N : Nat} (b g1 : Bool) (n1 : Nat) (g2 : Bool) (n2 : Nat) (h1 : Short N (digs n1)) (h2 : Short N (digs n2)) (h3 : Short N (digs (n1 + n2))) (k : Bool -> List Int -> Bool) :
    sZ16 N b g1 (digs n1) g2 (digs n2) k = intK (ival g1 n1 + ival g2 n2) k := by
  unfold sZ16 GZ16
  rw [law_sum_n false b g1 n1 g2 n2 h1 h2 h3]; rfl

def Bits (B : Nat) (n : Nat) : Prop := n < 2 ^ B
theorem bits_len {B n : Nat} (h : Bits B n) : (digs n).length <= B / 32 + 1 := by
  refine digs_len_le _ _ ?_
  rw [pow32]
  exact Nat.lt_of_lt_of_le h (Nat.pow_le_pow_right (by decide) (by omega))
theorem bits_short {N B n : Nat} (hN : 1000 <= N) (hB : B <= 31000) (h : Bits B n) : Short N (digs n) := by
  have := bits_len h
  exact ⟨by omega, by omega⟩
theorem bits_mono {A B n : Nat} (h : Bits A n) (hAB : A <= B) : Bits B n := Nat.lt_of_lt_of_le h (Nat.pow_le_pow_right (by decide) hAB)
theorem bits_mul {A B m n : Nat} (h : Bits A m) (g : Bits B n) : Bits (A + B) (m * n) := by
  unfold Bits; rw [Nat.pow_add]; exact Nat.mul_lt_mul'' h g
theorem bits_shift {A m : Nat} (h : Bits A m) (s : Nat) : Bits (A + s) (m * 2 ^ s) := by
  unfold Bits; rw [Nat.pow_add]; exact Nat.mul_lt_mul_of_pos_right h (Nat.two_pow_pos s)
theorem bits_add {A m n : Nat} (h : Bits A m) (g : Bits A n) : Bits (A + 1) (m + n) := by
  unfold Bits at *; rw [Nat.pow_succ]; omega
theorem bits_le {A m n : Nat} (h : Bits A m) (g : n <= m) : Bits A n := Nat.lt_of_le_of_lt g h
theorem bits_shOk {N B n s : Nat} (hN : 1000 <= N) (hB : B + s <= 31000) (h : Bits B n) : shOk N n s := by
  have h1 := bits_len h
  exact ⟨by omega, by omega, by omega, bits_short hN hB (bits_shift h s)⟩

def exK (z : Int × Int) (k : Int -> Bool -> List Int -> Bool) : Bool := k z.1 (decide (z.2 < 0)) (digs z.2.natAbs)
def exMul (x y : Int × Int) : Int × Int := (x.1 + y.1, x.2 * y.2)
def exNeg (x : Int × Int) : Int × Int := (x.1, -x.2)
def exLow (x : Int × Int) (e : Int) : Int := x.2 * 2 ^ (x.1 - e).toNat
def exAdd (x y : Int × Int) : Int × Int := if x.2 = 0 then y else if y.2 = 0 then x else (min x.1 y.1, exLow x (min x.1 y.1) + exLow y (min x.1 y.1))
def Ex (E B : Nat) (x : Int × Int) : Prop := -(E : Int) <= x.1 /\ x.1 <= E /\ Bits B x.2.natAbs
def sgnI (z : Int) : Int := if z = 0 then 0 else if z < 0 then -1 else 1
theorem imm_min (a b : Int) : imm false a b = min a b := by
  unfold imm; simp only [cond_false]
  by_cases h : b < a
  · rw [decide_eq_true h, cond_true]; omega
  · rw [decide_eq_false h, cond_false]; omega

set_option linter.unusedVariables false

def odd2 : Nat -> Nat -> Int -> Nat × Int
  | 0, m, e => (m, e)
  | f + 1, m, e => if m % 2 = 0 then odd2 f (m / 2) (e + 1) else (m, e)
theorem odd2_facts : ∀ f m e, m ≠ 0 -> m < 2 ^ f -> e <= (odd2 f m e).2 /\ (odd2 f m e).2 <= e + f /\ (odd2 f m e).1 * 2 ^ ((odd2 f m e).2 - e).toNat = m /\ (odd2 f m e).1 <= m
  | 0, m, e, h0, h => by simp at h; omega
  | f + 1, m, e, h0, h => by
    unfold odd2
    split
    · rename_i hm
      obtain ⟨h1, h2, h3, h4⟩ := odd2_facts f (m / 2) (e + 1) (by omega) (by rw [Nat.pow_succ] at h; omega)
      refine ⟨by omega, by omega, ?_, by omega⟩
      have : ((odd2 f (m / 2) (e + 1)).2 - e).toNat = ((odd2 f (m / 2) (e + 1)).2 - (e + 1)).toNat + 1 := by omega
      rw [this, Nat.pow_succ, <- Nat.mul_assoc, h3]; omega
    · refine ⟨by omega, by omega, ?_, Nat.le_refl _⟩
      rw [Int.sub_self]; simp
theorem law_odd {N : Nat} (hN : 1000 <= N) {m : Nat} {e : Int} (h0 : m ≠ 0) (hm : m < 2 ^ 64) (he1 : -2000 <= e) (he2 : e <= 2000) (k : Int -> Int -> Bool) :
    sZ94 N m e k = k ((odd2 64 m e).1 : Int) (odd2 64 m e).2 := by
  unfold sZ94 GZ94
  have key : ∀ f : Nat, f <= 64 -> ∀ (m : Nat) (e : Int), m ≠ 0 -> m < 2 ^ f -> m < 2 ^ 64 -> -2000 <= e -> e + f <= 3000 -> ∀ M : Nat, f < M -> iterG M (st_z01_odd_0 N fun a b => k a b) ((m : Int), e) = k ((odd2 f m e).1 : Int) (odd2 f m e).2 := by
    intro f
    induction f with
    | zero => intro _ m e h0 h; simp at h; omega
    | succ f ih =>
      intro hf m e h0 h h64 h1 h2 M hM
      cases M with
      | zero => omega
      | succ M =>
        show st_z01_odd_0 N _ ((m : Int), e) (iterG M _) = _
        have e2 : Int.tmod (m : Int) 2 = ((m % 2 : Nat) : Int) := by rw [Int.tmod_eq_emod_of_nonneg (by omega)]; rfl
        have e3 : Int.tdiv (m : Int) 2 = ((m / 2 : Nat) : Int) := by rw [Int.tdiv_eq_ediv_of_nonneg (by omega)]; rfl
        simp only [st_z01_odd_0, odd2, e2, e3]
        by_cases hm : m % 2 = 0
        · have : (((m % 2 : Nat) : Int) == 0) = true := by rw [hm]; rfl
          have ew : IntKind.wrap .u64 ((m / 2 : Nat) : Int) = ((m / 2 : Nat) : Int) := by
            rw [wrap64]
            have : (2 : Nat) ^ 64 = 18446744073709551616 := by decide
            omega
          rw [this, cond_true, and_tr (fits_ok (by omega) (by omega)), if_pos hm, ew]
          exact ih (by omega) (m / 2) (e + 1) (by omega) (by rw [Nat.pow_succ] at h; omega) (by omega) (by omega) (by omega) M (by omega)
        · have : (((m % 2 : Nat) : Int) == 0) = false := by
            have : m % 2 = 1 := by omega
            rw [this]; rfl
          rw [this, cond_false, if_neg hm]
  have : ((m : Int) == 0) = false := by simp; omega
  rw [this, cond_false]
  exact key 64 (Nat.le_refl _) m e h0 hm hm (by omega) (by omega) N (by omega)
theorem law_odd0 (N : Nat) (e : Int) (k : Int -> Int -> Bool) : sZ94 N 0 e k = k 0 0 := by
  unfold sZ94 GZ94; rfl

def ofE (x : Fl) : Int × Int := match x with
  | some b => match Ieee.double.read b with
    | .number s m i => if m = 0 then (0, 0) else ((odd2 64 m i).2, ival s (odd2 64 m i).1)
    | _ => (0, 0)
  | none => (0, 0)
theorem ofE_num {b : Nat} {s : Bool} {m : Nat} {i : Int} (h : Ieee.double.read b = .number s m i) : ofE (some b) = if m = 0 then (0, 0) else ((odd2 64 m i).2, ival s (odd2 64 m i).1) := by unfold ofE; simp only [h]
theorem law_Parts {N : Nat} (hN : 1000 <= N) {b : Nat} (hb : W64 b) {s : Bool} {m : Nat} {i : Int} (h : Ieee.double.read b = .number s m i) (k : Bool -> Int -> Int -> Int -> Bool) :
    sZ88 N (some b) k = if m = 0 then k s 0 0 0 else k s ((odd2 64 m i).1 : Int) (odd2 64 m i).2 0 := by
  obtain ⟨h1, h2, h3⟩ := read_number h
  have hpl := place_le h
  have hnn : isNaN b = false := by
    rw [Bool.eq_false_iff]; intro hc; have := (isNaN_iff b).1 hc; omega
  have hbits : bitsF (some b) = b := by simp only [bitsF, cnb, hnn]; rfl
  have hsg : (Int.fdiv (b : Int) (2 ^ 63) == 1) = s := by
    have e : (2 : Int) ^ 63 = ((9223372036854775808 : Nat) : Int) := by decide
    rw [e, nat_fdiv, h1]
    have hW : b / 9223372036854775808 < 2 := by have := hb; omega
    have : b / 9223372036854775808 = 0 \/ b / 9223372036854775808 = 1 := by omega
    rcases this with h | h <;> rw [h] <;> rfl
  have fin : ∀ (e : Int), i = e - 1074 -> -1100 <= e -> e <= 2100 -> JZ131 N (sZ45 N) (sZ94 N) (some b) s e (m : Int) k = if m = 0 then k s 0 0 0 else k s ((odd2 64 m i).1 : Int) (odd2 64 m i).2 0 := by
    intro e he h5 h6
    unfold JZ131
    rw [and_tr (fits_ok (by omega) (by omega)), <- he]
    by_cases h0 : m = 0
    · subst h0; rw [if_pos rfl]; exact law_odd0 N i _
    · rw [if_neg h0, law_odd hN h0 (by have : (2 : Nat) ^ 64 = 18446744073709551616 := by decide
                                       omega) (by omega) (by omega)]
  unfold sZ88 GZ88
  rw [law_Split, hbits]
  rw [hsg]
  have n2047 : (((b / 4503599627370496 % 2048 : Nat) : Int) == 2047) = false := by simp; omega
  rw [n2047, cond_false]
  rcases h3 with ⟨g1, g2, g3⟩ | ⟨g1, g2, g3⟩
  · have e0 : b / 4503599627370496 % 2048 = 0 := by omega
    have e1 : b % 4503599627370496 = m := by omega
    rw [e0, e1, decide_eq_false (by decide), cond_false]
    exact fin 0 (by omega) (by omega) (by omega)
  · have e0 : 0 < b / 4503599627370496 % 2048 := by omega
    have e1 : IntKind.wrap .u64 (((b % 4503599627370496 : Nat) : Int) + 4503599627370496) = (m : Int) := by rw [wrap64]; omega
    rw [decide_eq_true (by omega : ((b / 4503599627370496 % 2048 : Nat) : Int) > 0), cond_true, and_tr (fits_ok (by omega) (by omega)), e1]
    exact fin _ (by omega) (by omega) (by omega)
theorem law_Of {N : Nat} (hN : 1000 <= N) {x : Fl} (hx : finF x = true) (hw : FW x) (k : Int -> Bool -> List Int -> Bool) : sZ102 N x k = exK (ofE x) k := by
  obtain ⟨b, s, m, i, rfl, h⟩ := finF_num hx
  have hb := hw b rfl
  unfold sZ102 GZ102
  rw [law_Parts hN hb h, ofE_num h]
  by_cases h0 : m = 0
  · rw [if_pos h0, if_pos h0]
    have : ∀ κ, sZ24 N 0 false κ = κ false (digs 0) := fun κ => law_SetUint64 (N := N) 0 (by decide) false (short_small hN (by decide)) (by omega) κ
    rw [this]
    cases s
    · rw [cond_false]; unfold exK; rfl
    · rw [cond_true, law_Neg_r _ _ (short_small hN (by decide))]; unfold exK intK; rfl
  · rw [if_neg h0, if_neg h0]
    have hpl := place_le h
    obtain ⟨g1, g2, g3, g4⟩ := odd2_facts 64 m i h0 (by have : (2 : Nat) ^ 64 = 18446744073709551616 := by decide
                                                        omega)
    have hs := short_small (N := N) (n := (odd2 64 m i).1) hN (by omega)
    rw [law_SetUint64 (N := N) _ (by omega) false hs (by omega)]
    cases s
    · rw [cond_false]
      show _ = k (odd2 64 m i).2 (decide ((((odd2 64 m i).1 : Nat) : Int) < 0)) (digs (((odd2 64 m i).1 : Nat) : Int).natAbs)
      rw [decide_eq_false (by omega), Int.natAbs_natCast]
    · rw [cond_true, law_Neg_r _ _ hs]; rfl

def EV (x : Int × Int) (v : Int) (E : Nat) : Prop := 0 <= x.1 + E /\ x.2 * 2 ^ (x.1 + E).toNat = v
theorem EV.up {x : Int × Int} {v : Int} {E : Nat} (h : EV x v E) (F : Nat) : EV x (v * 2 ^ F) (E + F) := by
  obtain ⟨h1, h2⟩ := h
  refine ⟨by omega, ?_⟩
  have : (x.1 + ((E + F : Nat) : Int)).toNat = (x.1 + E).toNat + F := by omega
  rw [this, Int.pow_add, <- Int.mul_assoc, h2]
theorem EV.mul {x y : Int × Int} {v w : Int} {E F : Nat} (h : EV x v E) (g : EV y w F) : EV (exMul x y) (v * w) (E + F) := by
  obtain ⟨h1, h2⟩ := h
  obtain ⟨g1, g2⟩ := g
  refine ⟨by simp only [exMul]; omega, ?_⟩
  have : ((exMul x y).1 + ((E + F : Nat) : Int)).toNat = (x.1 + E).toNat + (y.1 + F).toNat := by simp only [exMul]; omega
  rw [this, Int.pow_add, <- h2, <- g2]
  simp only [exMul]
  ac_rfl
theorem EV.neg {x : Int × Int} {v : Int} {E : Nat} (h : EV x v E) : EV (exNeg x) (-v) E := ⟨h.1, by rw [<- h.2]; exact Int.neg_mul _ _⟩
theorem exLow_val {x : Int × Int} {v : Int} {E : Nat} (h : EV x v E) {e : Int} (he : e <= x.1) (hE : 0 <= e + E) : exLow x e * 2 ^ (e + E).toNat = v := by
  unfold exLow
  rw [Int.mul_assoc, <- Int.pow_add, show (x.1 - e).toNat + (e + E).toNat = (x.1 + E).toNat by omega]
  exact h.2
theorem EV.add {x y : Int × Int} {v w : Int} {E : Nat} (h : EV x v E) (g : EV y w E) : EV (exAdd x y) (v + w) E := by
  unfold exAdd
  split
  · rename_i h0
    have : v = 0 := by rw [<- h.2, h0, Int.zero_mul]
    rw [this, Int.zero_add]; exact g
  · split
    · rename_i h0
      have : w = 0 := by rw [<- g.2, h0, Int.zero_mul]
      rw [this, Int.add_zero]; exact h
    · have hE : 0 <= min x.1 y.1 + E := by have := h.1; have := g.1; omega
      exact ⟨hE, by rw [Int.add_mul, exLow_val h (by omega) hE, exLow_val g (by omega) hE]⟩
theorem EV.sgn {x : Int × Int} {v : Int} {E : Nat} (h : EV x v E) : sgnI x.2 = sgnI v := by
  rw [<- h.2]
  have hp := pow2_pos (x.1 + E).toNat
  unfold sgnI
  rcases Int.lt_trichotomy x.2 0 with h | h | h
  · have := Int.mul_neg_of_neg_of_pos h hp
    rw [if_neg (by omega), if_pos h, if_neg (by omega), if_pos this]
  · rw [h, Int.zero_mul]
  · have := Int.mul_pos h hp
    rw [if_neg (by omega), if_neg (by omega), if_neg (by omega), if_neg (by omega)]
theorem EV_zero (E : Nat) : EV (0, 0) 0 E := ⟨by simp only []; omega, Int.zero_mul _⟩

theorem Ex.mono {E B E' B' : Nat} {x : Int × Int} (h : Ex E B x) (hE : E <= E') (hB : B <= B') : Ex E' B' x := ⟨by have := h.1; omega, by have := h.2.1; omega, bits_mono h.2.2 hB⟩
theorem Ex.mul {E B E' B' : Nat} {x y : Int × Int} (h : Ex E B x) (g : Ex E' B' y) : Ex (E + E') (B + B') (exMul x y) :=
  ⟨by have := h.1; have := g.1; simp only [exMul]; omega, by have := h.2.1; have := g.2.1; simp only [exMul]; omega, by
    show Bits _ (x.2 * y.2).natAbs
    rw [Int.natAbs_mul]; exact bits_mul h.2.2 g.2.2⟩
theorem Ex.neg {E B : Nat} {x : Int × Int} (h : Ex E B x) : Ex E B (exNeg x) := ⟨h.1, h.2.1, by show Bits _ (-x.2).natAbs; rw [Int.natAbs_neg]; exact h.2.2⟩
theorem low_bits {E B : Nat} {x : Int × Int} (h : Ex E B x) {e : Int} (he : -(E : Int) <= e) : Bits (B + 2 * E) (exLow x e).natAbs := by
  unfold exLow
  rw [Int.natAbs_mul, Int.natAbs_pow]
  refine bits_mono (bits_shift h.2.2 _) ?_
  have := h.2.1; omega
theorem Ex.add {E B : Nat} {x y : Int × Int} (h : Ex E B x) (g : Ex E B y) : Ex E (B + 2 * E + 1) (exAdd x y) := by
  unfold exAdd
  split
  · exact g.mono (Nat.le_refl _) (by omega)
  · split
    · exact h.mono (Nat.le_refl _) (by omega)
    · refine ⟨by have := h.1; have := g.1; show -(E : Int) <= min x.1 y.1; omega, by have := h.2.1; show min x.1 y.1 <= E; omega, ?_⟩
      have h1 := low_bits h (e := min x.1 y.1) (by have := h.1; have := g.1; omega)
      have h2 := low_bits g (e := min x.1 y.1) (by have := h.1; have := g.1; omega)
      exact bits_le (bits_add h1 h2) (Int.natAbs_add_le _ _)

theorem intK_mk (z : Int) (k : Bool -> List Int -> Bool) : intK z k = k (decide (z < 0)) (digs z.natAbs) := rfl
theorem law_ExMul {N : Nat} (hN : 1000 <= N) {E B : Nat} {x y : Int × Int} (hx : Ex E B x) (hy : Ex E B y) (hE : E <= 100000) (hB : B <= 15000) (k : Int -> Bool -> List Int -> Bool) :
    sZ1 N x.1 y.1 (decide (x.2 < 0)) (digs x.2.natAbs) (decide (y.2 < 0)) (digs y.2.natAbs) k = exK (exMul x y) k := by
  have h1 := bits_len hx.2.2
  have h2 := bits_len hy.2.2
  unfold sZ1 GZ1
  rw [law_IntMul _ _ _ _ _ (by omega) (by omega), ival_nat, ival_nat, intK_mk, and_tr (fits_ok (by have := hx.1; have := hy.1; omega) (by have := hx.2.1; have := hy.2.1; omega))]
  rfl
theorem law_Low {N : Nat} (hN : 1000 <= N) {E B : Nat} {x : Int × Int} (hx : Ex E B x) {e : Int} (he : -(E : Int) <= e) (hB : B + 2 * E <= 30000) (k0 : Bool) (k1 : Bool -> List Int -> Bool) (h0 : x.1 <= e -> k0 = intK x.2 k1) (he2 : x.1 <= e -> e = x.1) :
    sZ13 N x.1 e (decide (x.2 < 0)) (digs x.2.natAbs) k0 k1 = intK (exLow x e) k1 := by
  unfold sZ13 GZ13
  have hx1 := hx.1
  have hx2 := hx.2.1
  by_cases hc : x.1 <= e
  · rw [decide_eq_true (by omega : e >= x.1), cond_true, h0 hc]
    have : exLow x e = x.2 := by
      unfold exLow
      rw [he2 hc, Int.sub_self]; simp
    rw [this]
  · rw [decide_eq_false (by omega : ¬ e >= x.1), cond_false, and_tr (fits_ok (by omega) (by omega))]
    have ew : IntKind.wrap .u64 (x.1 - e) = (((x.1 - e).toNat : Nat) : Int) := by rw [wrap64]; omega
    rw [ew, law_Lsh_n _ _ _ _ (bits_shOk hN (by omega) hx.2.2)]
    congr 1
    unfold exLow ival
    by_cases hz : x.2 < 0
    · rw [decide_eq_true hz, if_pos rfl, Int.natCast_mul, Int.natCast_pow, <- Int.neg_mul]
      congr 1; omega
    · rw [decide_eq_false hz, if_neg (by decide), Int.natCast_mul, Int.natCast_pow]
      congr 1; omega
theorem law_ExAdd {N : Nat} (hN : 1000 <= N) {E B : Nat} {x y : Int × Int} (hx : Ex E B x) (hy : Ex E B y) (hB : B + 2 * E <= 29000) (k0 k1 : Bool) (k2 : Int -> Bool -> List Int -> Bool) (h0 : k0 = exK y k2) (h1 : k1 = exK x k2) :
    sZ0 N x.1 y.1 (decide (x.2 < 0)) (digs x.2.natAbs) (decide (y.2 < 0)) (digs y.2.natAbs) k0 k1 k2 = exK (exAdd x y) k2 := by
  unfold sZ0 GZ0 exAdd
  have z0 : ∀ (z : Int) (g : Bool), ((if z.natAbs = 0 then (0 : Int) else if g = true then -1 else 1) == 0) = decide (z = 0) := by
    intro z g
    by_cases h : z = 0
    · rw [if_pos (by omega), decide_eq_true h]; rfl
    · rw [if_neg (by omega), decide_eq_false h]; cases g <;> rfl
  rw [law_Sign_r, z0, law_Sign_r, z0]
  by_cases c0 : x.2 = 0
  · rw [decide_eq_true c0, cond_true, if_pos c0, h0]
  · rw [decide_eq_false c0, cond_false, if_neg c0]
    by_cases c1 : y.2 = 0
    · rw [decide_eq_true c1, cond_true, if_pos c1, h1]
    · rw [decide_eq_false c1, cond_false, if_neg c1, imm_min]
      have hxe := hx.1
      have hye := hy.1
      have lx := low_bits hx (e := min x.1 y.1) (by omega)
      have ly := low_bits hy (e := min x.1 y.1) (by omega)
      have hadd : ∀ (a b : Int), Bits (B + 2 * E) a.natAbs -> Bits (B + 2 * E) b.natAbs -> sZ16 N false (decide (a < 0)) (digs a.natAbs) (decide (b < 0)) (digs b.natAbs) (fun cr nsr => k2 (min x.1 y.1) cr nsr) = exK (min x.1 y.1, a + b) k2 := by
        intro a b ha hb
        rw [law_IntAdd _ _ _ _ _ (bits_short hN (by omega) ha) (bits_short hN (by omega) hb) (bits_short hN (by omega) (bits_add ha hb)), ival_nat, ival_nat]
        rfl
      have hyl : ∀ (a : Int), Bits (B + 2 * E) a.natAbs -> sZ13 N y.1 (min x.1 y.1) (decide (y.2 < 0)) (digs y.2.natAbs) (sZ16 N false (decide (a < 0)) (digs a.natAbs) (decide (y.2 < 0)) (digs y.2.natAbs) (fun cr nsr => k2 (min x.1 y.1) cr nsr)) (fun g d => sZ16 N false (decide (a < 0)) (digs a.natAbs) g d (fun cr nsr => k2 (min x.1 y.1) cr nsr)) = exK (min x.1 y.1, a + exLow y (min x.1 y.1)) k2 := by
        intro a ha
        rw [law_Low hN hy (by omega) (by omega) _ _ (fun _ => by rw [intK_mk]) (by omega), intK_mk, hadd _ _ ha ly]
      rw [law_Low hN hx (by omega) (by omega) _ _ (fun h => by
        rw [intK_mk]) (by omega), intK_mk, hyl _ lx]
theorem law_ExCmp {N : Nat} (hN : 1000 <= N) {E B : Nat} {x y : Int × Int} (hx : Ex E B x) (hy : Ex E B y) (hB : B + 2 * E <= 28000) (k : Int -> Bool) :
    sZ4 N x.1 y.1 (decide (x.2 < 0)) (digs x.2.natAbs) (decide (y.2 < 0)) (digs y.2.natAbs) k = k (sgnI (exAdd x (exNeg y)).2) := by
  unfold sZ4 GZ4 sZ6 GZ6
  rw [law_Neg_n _ _ _ (bits_short hN (by omega) hy.2.2), ival_nat, intK_mk]
  have sg : ∀ (z : Int), sZ11 N (decide (z < 0)) (digs z.natAbs) (fun nr => k nr) = k (sgnI z) := by
    intro z
    rw [law_Sign_r]
    unfold sgnI
    congr 1
    by_cases h : z = 0
    · rw [if_pos (by omega), if_pos h]
    · rw [if_neg (by omega), if_neg h]
      by_cases hl : z < 0
      · rw [if_pos (decide_eq_true hl), if_pos hl]
      · rw [if_neg (by rw [decide_eq_false hl]; decide), if_neg hl]
  have := law_ExAdd (N := N) hN hx (Ex.neg hy) (by omega) (sZ11 N (decide (-y.2 < 0)) (digs (-y.2).natAbs) (fun nr => k nr)) (sZ11 N (decide (x.2 < 0)) (digs x.2.natAbs) (fun nr => k nr)) (fun _ g d => sZ11 N g d (fun nr => k nr)) rfl rfl
  refine Eq.trans this ?_
  unfold exK
  exact sg _

def dotE (a b : List Fl) : Nat -> Int × Int
  | 0 => (0, 0)
  | n + 1 => exAdd (dotE a b n) (exMul (ofE (a.getD n none)) (ofE (b.getD n none)))
theorem ofE_Ex {x : Fl} (hx : finF x = true) : Ex 1100 53 (ofE x) := by
  obtain ⟨b, s, m, i, rfl, h⟩ := finF_num hx
  rw [ofE_num h]
  have hpl := place_le h
  have hpg := place_ge h
  by_cases h0 : m = 0
  · rw [if_pos h0]; exact ⟨by decide, by decide, Nat.two_pow_pos _⟩
  · rw [if_neg h0]
    obtain ⟨g1, g2, g3, g4⟩ := odd2_facts 64 m i h0 (by have : (2 : Nat) ^ 64 = 18446744073709551616 := by decide
                                                        omega)
    refine ⟨by show -((1100 : Nat) : Int) <= (odd2 64 m i).2; omega, by show (odd2 64 m i).2 <= ((1100 : Nat) : Int); omega, ?_⟩
    show Bits 53 (ival s (odd2 64 m i).1).natAbs
    have : (ival s (odd2 64 m i).1).natAbs = (odd2 64 m i).1 := by unfold ival; cases s <;> simp
    rw [this]
    show _ < 2 ^ 53
    have : (2 : Nat) ^ 53 = 9007199254740992 := by decide
    omega
theorem ofE_EV {b : Nat} {s : Bool} {m : Nat} {i : Int} (h : Ieee.double.read b = .number s m i) {E : Nat} (hE : 1074 <= E) : EV (ofE (some b)) (signed s m (i + E).toNat) E := by
  rw [ofE_num h]
  have hpg := place_ge h
  by_cases h0 : m = 0
  · rw [if_pos h0]; subst h0; rw [signed_zero]; exact EV_zero E
  · rw [if_neg h0]
    have hpl := place_le h
    obtain ⟨g1, g2, g3, g4⟩ := odd2_facts 64 m i h0 (by have : (2 : Nat) ^ 64 = 18446744073709551616 := by decide
                                                        omega)
    refine ⟨by show 0 <= (odd2 64 m i).2 + (E : Int); omega, ?_⟩
    show ival s (odd2 64 m i).1 * 2 ^ ((odd2 64 m i).2 + E).toNat = _
    generalize odd2 64 m i = q at *
    have e1 : (q.2 + E).toNat = (q.2 - i).toNat + (i + E).toNat := by omega
    unfold ival signed
    rw [Nat.shiftLeft_eq, e1, Int.pow_add, <- g3]
    cases s
    · simp only [Bool.false_eq_true, if_false]
      rw [Int.natCast_mul, Int.natCast_mul, Int.natCast_pow, Int.natCast_pow]; rw [show ((2 : Nat) : Int) = 2 from rfl]; ac_rfl
    · simp only [if_true]
      rw [Int.natCast_mul, Int.natCast_mul, Int.natCast_pow, Int.natCast_pow]; rw [show ((2 : Nat) : Int) = 2 from rfl]
      rw [Int.neg_mul]; congr 1; ac_rfl

set_option linter.unusedVariables false

@[irreducible] def Sc : Nat := 1074
theorem Sc_ge : 1074 <= Sc := by unfold Sc; exact Nat.le_refl _
theorem Sc_le : Sc <= 1074 := by unfold Sc; exact Nat.le_refl _
@[irreducible] def e2 : Nat := 4196
theorem e2_eq : e2 = 2098 + 2098 := by unfold e2; rfl
theorem big2_lt {x : Nat} (h : Bits (2098 + 2098) x) : x < 2 ^ e2 := by
  have h' : Bits e2 x := by rw [e2_eq]; exact h
  exact h'
theorem big2_12 {n x : Nat} (hn : n <= 12) (h : x <= n * 2 ^ e2) : Bits 4200 x := by
  have h3 : n * 2 ^ e2 < 2 ^ 4 * 2 ^ e2 := Nat.mul_lt_mul_of_pos_right (Nat.lt_of_le_of_lt hn (Nat.le_of_ble_eq_true rfl)) (Nat.two_pow_pos e2)
  rw [<- Nat.pow_add] at h3
  have h4 : Bits (4 + e2) x := Nat.lt_of_le_of_lt h h3
  exact bits_mono h4 (by rw [e2_eq]; omega)
def valE (x : Fl) : Int := (ofE x).2 * 2 ^ ((ofE x).1 + Sc).toNat
theorem valE_EV {x : Fl} (hx : finF x = true) : EV (ofE x) (valE x) Sc := by
  obtain ⟨b, s, m, i, rfl, h⟩ := finF_num hx
  exact ⟨(ofE_EV h Sc_ge).1, rfl⟩
theorem valE_num {b : Nat} {s : Bool} {m : Nat} {i : Int} (h : Ieee.double.read b = .number s m i) : valE (some b) = signed s m (i + Sc).toNat := (ofE_EV h Sc_ge).2
theorem valE_lt {x : Fl} (hx : finF x = true) : Bits 2098 (valE x).natAbs := by
  obtain ⟨b, s, m, i, rfl, h⟩ := finF_num hx
  rw [valE_num h, signed_abs]
  have hpl := place_le h
  have hm : Bits 53 m := by
    show _ < 2 ^ 53
    have : (2 : Nat) ^ 53 = 9007199254740992 := by decide
    omega
  refine bits_mono (bits_shift hm _) ?_
  have := Sc_le; omega
theorem EV.bits {x : Int × Int} {v : Int} {E B : Nat} (h : EV x v E) (g : Bits B v.natAbs) : Bits B x.2.natAbs := by
  refine bits_le g ?_
  rw [<- h.2, abs_mul_pow]
  exact Nat.le_mul_of_pos_right _ (Nat.two_pow_pos _)
def dotVal (a b : List Fl) : Nat -> Int
  | 0 => 0
  | n + 1 => dotVal a b n + valE (a.getD n none) * valE (b.getD n none)
def FinL (a : List Fl) (n : Nat) : Prop := ∀ i, i < n -> finF (a.getD i none) = true /\ FW (a.getD i none)
theorem dotE_EV {a b : List Fl} : ∀ n, FinL a n -> FinL b n -> EV (dotE a b n) (dotVal a b n) (Sc + Sc)
  | 0, _, _ => EV_zero _
  | n + 1, ha, hb => (dotE_EV n (fun i hi => ha i (by omega)) (fun i hi => hb i (by omega))).add ((valE_EV (ha n (by omega)).1).mul (valE_EV (hb n (by omega)).1))
theorem dotVal_le {a b : List Fl} : ∀ n, FinL a n -> FinL b n -> (dotVal a b n).natAbs <= n * 2 ^ e2
  | 0, _, _ => by show (0 : Int).natAbs <= _; simp
  | n + 1, ha, hb => by
    have h1 := dotVal_le n (fun i hi => ha i (by omega)) (fun i hi => hb i (by omega))
    have h2 := bits_mul (valE_lt (ha n (by omega)).1) (valE_lt (hb n (by omega)).1)
    show (dotVal a b n + valE (a.getD n none) * valE (b.getD n none)).natAbs <= _
    have h3 := Int.natAbs_add_le (dotVal a b n) (valE (a.getD n none) * valE (b.getD n none))
    rw [Int.natAbs_mul] at h3
    have h4 := big2_lt h2
    rw [Nat.succ_mul]; omega
theorem exAdd_exp {x y : Int × Int} {E : Nat} (h1 : -(E : Int) <= x.1) (h2 : x.1 <= E) (g1 : -(E : Int) <= y.1) (g2 : y.1 <= E) : -(E : Int) <= (exAdd x y).1 /\ (exAdd x y).1 <= E := by
  unfold exAdd
  split
  · exact ⟨g1, g2⟩
  · split
    · exact ⟨h1, h2⟩
    · show -(E : Int) <= min x.1 y.1 /\ min x.1 y.1 <= E
      omega
theorem dotE_exp {a b : List Fl} : ∀ n, FinL a n -> FinL b n -> -((2200 : Nat) : Int) <= (dotE a b n).1 /\ (dotE a b n).1 <= ((2200 : Nat) : Int)
  | 0, _, _ => by show -((2200 : Nat) : Int) <= 0 /\ (0 : Int) <= ((2200 : Nat) : Int); omega
  | n + 1, ha, hb => by
    have h1 := dotE_exp n (fun i hi => ha i (by omega)) (fun i hi => hb i (by omega))
    have h2 := ofE_Ex (ha n (by omega)).1
    have h3 := ofE_Ex (hb n (by omega)).1
    have a1 := h2.1; have a2 := h2.2.1; have b1 := h3.1; have b2 := h3.2.1
    exact exAdd_exp h1.1 h1.2 (by show -((2200 : Nat) : Int) <= (ofE (a.getD n none)).1 + (ofE (b.getD n none)).1; omega) (by show (ofE (a.getD n none)).1 + (ofE (b.getD n none)).1 <= ((2200 : Nat) : Int); omega)
theorem dotE_Ex {a b : List Fl} {n : Nat} (hn : n <= 12) (ha : FinL a n) (hb : FinL b n) : Ex 2200 4200 (dotE a b n) := by
  have h1 := dotE_exp n ha hb
  refine ⟨h1.1, h1.2, (dotE_EV n ha hb).bits ?_⟩
  exact big2_12 hn (dotVal_le n ha hb)
theorem FinL.mono {a : List Fl} {n m : Nat} (h : FinL a n) (hm : m <= n) : FinL a m := fun i hi => h i (by omega)
theorem law_DotE {N : Nat} (hN : 1000 <= N) {a b : List Fl} (hl : a.length = b.length) (hn : a.length <= 12) (ha : FinL a a.length) (hb : FinL b a.length) (k : Int -> Bool -> List Int -> Bool) :
    sZ119 N a b k = exK (dotE a b a.length) k := by
  unfold sZ119 GZ119 sZ41 GZ41
  refine iterG_eq0 (fun i => ((i : Int), (dotE a b i).1, decide ((dotE a b i).2 < 0), digs (dotE a b i).2.natAbs)) a.length ?_ (by omega) (fun i hi K => ?_) (fun K => ?_)
  · show ((0 : Int), (0 : Int), false, ([] : List Int)) = (((0 : Nat) : Int), (0 : Int), decide ((0 : Int) < 0), digs (0 : Int).natAbs)
    rw [show (0 : Int).natAbs = 0 from rfl, digs_zero]; rfl
  · simp only [st_z03_Dot_0, Int.toNat_natCast]
    have f1 := ha i hi
    have f2 := hb i hi
    have d1 := dotE_Ex (a := a) (b := b) (n := i) (by omega) (ha.mono (by omega)) (hb.mono (by omega))
    have e1 := ofE_Ex f1.1
    have e2 := ofE_Ex f2.1
    have em := (e1.mul e2).mono (E' := 2200) (B' := 4200) (by omega) (by omega)
    rw [decide_eq_true (by omega : (i : Int) < ((a.length : Nat) : Int)), cond_true, and_tr (inR_of (by omega) (by omega)), law_Of hN f1.1 f1.2]
    unfold exK
    dsimp only
    rw [and_tr (inR_of (by omega) (by omega)), law_Of hN f2.1 f2.2]
    unfold exK
    dsimp only
    rw [law_ExMul hN e1 e2 (by omega) (by omega)]
    unfold exK
    dsimp only
    rw [law_ExAdd hN d1 em (by omega) _ _ (fun nr cr nsr => (fits .i64 ((i : Int) + 1)) && K ((i : Int) + 1, nr, cr, nsr)) (by rfl) (by rfl)]
    unfold exK
    dsimp only
    rw [and_tr (fits_ok (by omega) (by omega))]
    rfl
  · simp only [st_z03_Dot_0]
    rw [decide_eq_false (by omega), cond_false]
    rfl
set_option linter.unusedVariables false

def mvalq : List Int -> Nat
  | [] => 0
  | x :: r => x.toNat + 18446744073709551616 * mvalq r
def InWq (m : List Int) : Prop := ∀ x ∈ m, 0 <= x /\ x < 18446744073709551616
def digsq (n : Nat) : List Int := if h : n = 0 then [] else ((n % 18446744073709551616 : Nat) : Int) :: digsq (n / 18446744073709551616)
termination_by n
decreasing_by omega
theorem digs_zeroq : digsq 0 = [] := by rw [digsq]; simp
theorem digs_posq {n : Nat} (h : n ≠ 0) : digsq n = ((n % 18446744073709551616 : Nat) : Int) :: digsq (n / 18446744073709551616) := by
  rw [digsq]; simp [h]
theorem InWq.take {m : List Int} (h : InWq m) (n : Nat) : InWq (m.take n) := fun x hx => h x (List.mem_of_mem_take hx)
theorem InWq.drop {m : List Int} (h : InWq m) (n : Nat) : InWq (m.drop n) := fun x hx => h x (List.mem_of_mem_drop hx)
theorem InWq.cons {x : Int} {m : List Int} (h : InWq (x :: m)) : (0 <= x /\ x < 18446744073709551616) /\ InWq m := ⟨h x (by simp), fun y hy => h y (by simp [hy])⟩
theorem InWq.at {m : List Int} (h : InWq m) {i : Nat} : 0 <= m.getD i 0 /\ m.getD i 0 < 18446744073709551616 := by
  rw [List.getD_eq_getElem?_getD]
  by_cases hi : i < m.length
  · rw [List.getElem?_eq_getElem hi]; exact h _ (List.getElem_mem hi)
  · rw [List.getElem?_eq_none (by omega)]; exact ⟨by decide, by decide⟩
set_option linter.unusedVariables false

def Shortq (N : Nat) (l : List Int) : Prop := l.length + 3 < N /\ l.length <= 1000000
set_option linter.unusedVariables false

theorem and32 (n : Nat) : bitsN .and .u64 (n : Int) 4294967295 = ((n % 4294967296 : Nat) : Int) := by
  have h := bitsN_and_mask n 32 (by decide)
  have e1 : ((2 ^ 32 - 1 : Nat) : Int) = 4294967295 := by decide
  have e2 : (2 : Nat) ^ 32 = 4294967296 := by decide
  rw [e1, e2] at h
  exact h
set_option linter.unusedVariables false

theorem pow2_64 (n : Nat) : 2 ^ n = 18446744073709551616 ^ (n / 64) * 2 ^ (n % 64) := by
  have e : (18446744073709551616 : Nat) = 2 ^ 64 := by decide
  rw [e, <- Nat.pow_mul, <- Nat.pow_add]
  congr 1; omega
set_option linter.unusedVariables false

theorem digsq_getD : ∀ (i V : Nat), (digsq V).getD i 0 = ((V / 18446744073709551616 ^ i % 18446744073709551616 : Nat) : Int)
  | i, V => by
    by_cases h : V = 0
    · subst h; rw [digs_zeroq]; simp
    · rw [digs_posq h]
      cases i with
      | zero => simp
      | succ i =>
        show (digsq (V / 18446744073709551616)).getD i 0 = _
        rw [digsq_getD i (V / 18446744073709551616), Nat.pow_succ, Nat.mul_comm, <- Nat.div_div_eq_div_mul]
set_option linter.unusedVariables false

theorem odd_form : ∀ n : Nat, n ≠ 0 -> ∃ t c, n = 2 ^ t * (2 * c + 1) := by
  intro n
  induction n using Nat.strongRecOn with
  | ind n ih =>
    intro h0
    by_cases h : n % 2 = 0
    · obtain ⟨t, c, hc⟩ := ih (n / 2) (by omega) (by omega)
      exact ⟨t + 1, c, by rw [Nat.pow_succ, Nat.mul_comm (2 ^ t) 2, Nat.mul_assoc, <- hc]; omega⟩
    · exact ⟨0, n / 2, by rw [Nat.pow_zero, Nat.one_mul]; omega⟩
set_option linter.unusedVariables false

theorem odd2_form : ∀ (f t c : Nat) (e : Int), t < f -> odd2 f (2 ^ t * (2 * c + 1)) e = (2 * c + 1, e + t)
  | 0, t, c, e, h => by omega
  | f + 1, 0, c, e, h => by
    unfold odd2
    rw [Nat.pow_zero, Nat.one_mul, if_neg (by omega)]
    simp
  | f + 1, t + 1, c, e, h => by
    unfold odd2
    have e1 : 2 ^ (t + 1) * (2 * c + 1) = 2 * (2 ^ t * (2 * c + 1)) := by rw [Nat.pow_succ]; ac_rfl
    rw [e1, if_pos (by omega), Nat.mul_div_cancel_left _ (by decide), odd2_form f t c (e + 1) (by omega)]
    congr 1; omega
set_option linter.unusedVariables false

theorem digs_getD : ∀ (i V : Nat), (digs V).getD i 0 = ((V / 4294967296 ^ i % 4294967296 : Nat) : Int)
  | i, V => by
    by_cases h : V = 0
    · subst h; rw [digs_zero]; simp
    · rw [digs_pos h]
      cases i with
      | zero => simp
      | succ i =>
        show (digs (V / 4294967296)).getD i 0 = _
        rw [digs_getD i (V / 4294967296), Nat.pow_succ, Nat.mul_comm, <- Nat.div_div_eq_div_mul]
theorem exAdd_Ex {x y : Int × Int} {v w : Int} {E B S : Nat} (hx : Ex E B x) (hy : Ex E B y) (hv : EV x v S) (hw : EV y w S) {C : Nat} (hb : Bits C (v + w).natAbs) : Ex E C (exAdd x y) /\ EV (exAdd x y) (v + w) S := by
  have h := EV.add hv hw
  have e := exAdd_exp hx.1 hx.2.1 hy.1 hy.2.1
  exact ⟨⟨e.1, e.2, h.bits hb⟩, h⟩
set_option linter.unusedVariables false

def pE (e : Int) : Int := 1 * 2 ^ (e + ((Sc + Sc : Nat) : Int)).toNat
theorem pE_EV {e : Int} (h : -2000 <= e) : EV (e, 1) (pE e) (Sc + Sc) := ⟨by have := Sc_ge; show 0 <= e + ((Sc + Sc : Nat) : Int); omega, rfl⟩
theorem pE_neg {e : Int} (h : -2000 <= e) : EV (e, -1) (-(pE e)) (Sc + Sc) := (pE_EV h).neg
theorem pE_le {e : Int} (h1 : -2000 <= e) (h : e <= 0) : (pE e).natAbs <= 2 ^ e2 := by
  unfold pE
  rw [Int.one_mul]
  have e1 : ((2 : Int) ^ (e + ((Sc + Sc : Nat) : Int)).toNat).natAbs = 2 ^ (e + ((Sc + Sc : Nat) : Int)).toNat := by rw [Int.natAbs_pow]; rfl
  rw [e1]
  refine Nat.pow_le_pow_right (by decide) ?_
  have := Sc_le
  rw [e2_eq]; omega
theorem ex_one {e : Int} {E B : Nat} (h1 : -(E : Int) <= e) (h2 : e <= E) (hB : 1 <= B) : Ex E B (e, 1) := by
  refine ⟨h1, h2, ?_⟩
  show (1 : Int).natAbs < 2 ^ B
  have : 2 ^ 1 <= 2 ^ B := Nat.pow_le_pow_right (by decide) hB
  have : (1 : Int).natAbs = 1 := rfl
  omega
theorem finL4 {a b c d : Fl} (h : allFin [a, b, c, d] = true) (ha : FW a) (hb : FW b) (hc : FW c) (hd : FW d) : FinL [a, b, c, d] 4 := by
  have h := allN_iff.1 h
  intro i hi
  exact ⟨h i hi, FW4 ha hb hc hd i hi⟩
theorem abs_neg_one (z : Int) : decide (((z.natAbs : Nat) : Int) < 0) = false := decide_eq_false (by omega)
def offE (a b c d : Fl) : Int := (((dotVal [a, b, c, d] [a, b, c, d] 4 - pE 0).natAbs : Nat) : Int) - pE (-48)
theorem EV.abs {x : Int × Int} {v : Int} {E : Nat} (h : EV x v E) : EV (x.1, ((x.2.natAbs : Nat) : Int)) ((v.natAbs : Nat) : Int) E := by
  refine ⟨h.1, ?_⟩
  show ((x.2.natAbs : Nat) : Int) * 2 ^ (x.1 + E).toNat = _
  rw [<- h.2, abs_mul_pow, Int.natCast_mul, Int.natCast_pow]; rfl
theorem off_bits {a b c d : Fl} (h : FinL [a, b, c, d] 4) : Bits 4200 (dotVal [a, b, c, d] [a, b, c, d] 4 - pE 0).natAbs := by
  have h1 := dotVal_le 4 h h
  have h2 := pE_le (e := 0) (by decide) (by decide)
  refine big2_12 (n := 5) (by decide) ?_
  generalize pE 0 = p at *
  generalize dotVal [a, b, c, d] [a, b, c, d] 4 = s at *
  generalize 2 ^ e2 = X at *
  omega
theorem law_AbsR {N : Nat} (b : Bool) (n : Nat) (hN : Short N (digs n)) (k : Bool -> List Int -> Bool) : sZ50 N false b (digs n) k = k false (digs n) := by
  unfold sZ50 GZ50 sZ32 GZ32
  obtain ⟨h1, h2⟩ := hN
  rw [List.nil_append, decide_eq_true (by omega), Bool.true_and, law_cut_w _ (by omega) (by omega), cut_full]
  simp only [List.drop_zero, List.take_length]
  rw [decide_eq_true (by omega : 0 + (digs n).length <= (digs n).length), Bool.true_and]
  rfl
theorem new_minus {N : Nat} (hN : 1000 <= N) (k : Bool -> List Int -> Bool) : sZ47 N (-1) k = k true [1] := by
  obtain ⟨M, rfl⟩ : ∃ M, N = M + 1000 := ⟨N - 1000, by omega⟩
  kernel_rfl
theorem new_one {N : Nat} (hN : 1000 <= N) (k : Bool -> List Int -> Bool) : sZ47 N 1 k = k false [1] := by
  obtain ⟨M, rfl⟩ : ∃ M, N = M + 1000 := ⟨N - 1000, by omega⟩
  kernel_rfl
theorem law_ref_Good {N : Nat} (hN : 1000 <= N) {a b c d : Fl} (h : allFin [a, b, c, d] = true) (ha : FW a) (hb : FW b) (hc : FW c) (hd : FW d) (k : Bool -> Bool) : sZ63 N a b c d k = k (decide (sgnI (offE a b c d) <= 0)) := by
  have hL := finL4 h ha hb hc hd
  have hS := dotE_EV (a := [a, b, c, d]) (b := [a, b, c, d]) 4 hL hL
  have hX := dotE_Ex (a := [a, b, c, d]) (b := [a, b, c, d]) (n := 4) (Nat.le_of_ble_eq_true rfl) hL hL
  have hm : Ex 2200 4200 ((0 : Int), (-1 : Int)) := (ex_one (E := 2200) (B := 4200) (e := 0) (by omega) (by omega) (by omega)).neg
  have ev : dotVal [a, b, c, d] [a, b, c, d] 4 + -(pE 0) = dotVal [a, b, c, d] [a, b, c, d] 4 - pE 0 := (Int.sub_eq_add_neg).symm
  obtain ⟨hs, hsv⟩ := exAdd_Ex hX hm hS (pE_neg (e := 0) (by decide)) (C := 4200) (by rw [ev]; exact off_bits hL)
  rw [ev] at hsv
  have habs : ∀ (x : Int × Int) (hx : Ex 2200 4200 x) (κ : Bool -> List Int -> Bool), sZ20 N x.1 (decide (x.2 < 0)) (digs x.2.natAbs) κ = κ false (digs x.2.natAbs) := by
    intro x hx κ
    unfold sZ20 GZ20
    rw [law_AbsR _ _ (bits_short hN (by omega) hx.2.2)]
  have hab : Ex 2200 4200 ((exAdd (dotE [a, b, c, d] [a, b, c, d] 4) (0, -1)).1, (((exAdd (dotE [a, b, c, d] [a, b, c, d] 4) (0, -1)).2.natAbs : Nat) : Int)) := ⟨hs.1, hs.2.1, by show Bits _ (((exAdd (dotE [a, b, c, d] [a, b, c, d] 4) (0, -1)).2.natAbs : Nat) : Int).natAbs; rw [Int.natAbs_natCast]; exact hs.2.2⟩
  have hcv := EV.add hsv.abs (EV.neg (pE_EV (e := -48) (by decide)))
  have hC := fun κ => law_ExCmp hN hab (ex_one (E := 2200) (B := 4200) (e := -48) (by omega) (by omega) (by omega)) (by omega) κ
  simp only [abs_neg_one, Int.natAbs_natCast] at hC
  unfold sZ63 GZ63
  rw [law_Finite4 hN, h, show (true == true) = true from rfl, cond_true]
  unfold sZ76 GZ76 sZ64 GZ64
  dsimp only
  rw [law_DotE hN rfl (Nat.le_of_ble_eq_true rfl) hL hL]
  unfold exK
  unfold sZ98 GZ98 sZ23 GZ23
  dsimp only
  rw [new_minus hN]
  show sZ0 N (dotE [a, b, c, d] [a, b, c, d] 4).1 0 (decide ((dotE [a, b, c, d] [a, b, c, d] 4).2 < 0)) (digs (dotE [a, b, c, d] [a, b, c, d] 4).2.natAbs) true [1] _ _ _ = _
  have hadd := fun k0 k1 k2 h0 h1 => law_ExAdd hN hX hm (by omega) k0 k1 k2 h0 h1
  rw [show decide (((0 : Int), (-1 : Int)).2 < 0) = true from rfl, show ((0 : Int), (-1 : Int)).2.natAbs = 1 from rfl, digs_one] at hadd
  refine Eq.trans (hadd _ _ (fun e g l => sZ20 N e g l (fun cr nsr => sZ47 N 1 (fun cr_2 nsr_1 => sZ4 N e (-48) cr nsr cr_2 nsr_1 (fun nr_1 => k (decide (nr_1 <= 0)))))) ?_ rfl) ?_
  · unfold exK
    rw [show decide (((0 : Int), (-1 : Int)).2 < 0) = true from rfl, show ((0 : Int), (-1 : Int)).2.natAbs = 1 from rfl, digs_one]
  · unfold exK
    dsimp only
    rw [habs _ hs, new_one hN]
    have := hC (fun nr_1 => k (decide (nr_1 <= 0)))
    rw [show decide (((-48 : Int), (1 : Int)).2 < 0) = false from rfl, show ((-48 : Int), (1 : Int)).2.natAbs = 1 from rfl, digs_one] at this
    refine Eq.trans this ?_
    rw [hcv.sgn, (Int.sub_eq_add_neg).symm]; rfl
theorem law_ref_Good_nf {N : Nat} (hN : 1000 <= N) {a b c d : Fl} (h : allFin [a, b, c, d] = false) (k : Bool -> Bool) : sZ63 N a b c d k = k false := by
  unfold sZ63 GZ63
  rw [law_Finite4 hN, h]; rfl


end Go.Proofs.YtgngdkjghdohiaaGreat
