/-
  PURE: the document's whole numbers (binnacleref00): products; signs turned.
  Conditions: N large, lists short, each a word.
-/
import Derived.Test.YtccocdgimamdhaaGreatDoorR1
namespace Go.Proofs.YtccocdgimamdhaaGreatDoor
open Go Go.Mach

theorem mul_num (V x Bk bk i k : Nat) : V % 4294967296 ^ (i + k + 1) + x * (Bk + 4294967296 ^ k * bk) * 4294967296 ^ i = (V % 4294967296 ^ (i + k) + x * Bk * 4294967296 ^ i) + 4294967296 ^ (i + k) * (V / 4294967296 ^ (i + k) % 4294967296 + x * bk) := by
  rw [Nat.mod_pow_succ, Nat.pow_add]
  grind
theorem carry_step (V x Bk bk i k : Nat) : (V % 4294967296 ^ (i + k + 1) + x * (Bk + 4294967296 ^ k * bk) * 4294967296 ^ i) / 4294967296 ^ (i + k + 1) = ((V % 4294967296 ^ (i + k) + x * Bk * 4294967296 ^ i) / 4294967296 ^ (i + k) + V / 4294967296 ^ (i + k) % 4294967296 + x * bk) / 4294967296 := by
  rw [mul_num, Nat.pow_succ, <- Nat.div_div_eq_div_mul, Nat.add_mul_div_left _ _ (Nat.pow_pos (by decide)), Nat.add_assoc]
theorem carry_digit (V x Bk bk i k R : Nat) : (V + x * (Bk + 4294967296 ^ k * bk + 4294967296 ^ (k + 1) * R) * 4294967296 ^ i) / 4294967296 ^ (i + k) % 4294967296 = ((V % 4294967296 ^ (i + k) + x * Bk * 4294967296 ^ i) / 4294967296 ^ (i + k) + V / 4294967296 ^ (i + k) % 4294967296 + x * bk) % 4294967296 := by
  have e : V + x * (Bk + 4294967296 ^ k * bk + 4294967296 ^ (k + 1) * R) * 4294967296 ^ i = (V % 4294967296 ^ (i + k + 1) + x * (Bk + 4294967296 ^ k * bk) * 4294967296 ^ i) + 4294967296 ^ (i + k + 1) * (V / 4294967296 ^ (i + k + 1) + x * R) := by
    have h := Nat.div_add_mod V (4294967296 ^ (i + k + 1))
    have h2 : 4294967296 ^ (i + k + 1) = 4294967296 ^ (k + 1) * 4294967296 ^ i := by rw [<- Nat.pow_add]; congr 1; omega
    generalize V / 4294967296 ^ (i + k + 1) = q at *
    generalize V % 4294967296 ^ (i + k + 1) = r at *
    rw [<- h, h2]
    grind
  rw [digit_of e, mul_num, Nat.add_mul_div_left _ _ (Nat.pow_pos (by decide)), Nat.add_assoc]
theorem carry_lt {V x Bk i k : Nat} (hx : x < 4294967296) (hB : Bk < 4294967296 ^ k) : (V % 4294967296 ^ (i + k) + x * Bk * 4294967296 ^ i) / 4294967296 ^ (i + k) < 4294967296 := by
  rw [Nat.div_lt_iff_lt_mul (Nat.pow_pos (by decide))]
  have h1 : V % 4294967296 ^ (i + k) < 4294967296 ^ (i + k) := Nat.mod_lt _ (Nat.pow_pos (by decide))
  have h2 : x * Bk <= 4294967295 * 4294967296 ^ k := Nat.mul_le_mul (by omega) (by omega)
  have h3 : x * Bk * 4294967296 ^ i <= 4294967295 * 4294967296 ^ (i + k) := by
    have := Nat.mul_le_mul_right (4294967296 ^ i) h2
    rwa [Nat.mul_assoc 4294967295, <- Nat.pow_add, Nat.add_comm k i] at this
  omega
theorem dl_getD (S : Nat) {L i : Nat} (h : i < L) : (dl S L).getD i 0 = ((S / 4294967296 ^ i % 4294967296 : Nat) : Int) := by
  induction L with
  | zero => omega
  | succ L ih =>
    show ((dl S L) ++ [_]).getD i 0 = _
    rw [List.getD_eq_getElem?_getD]
    by_cases hi : i < L
    · rw [List.getElem?_append_left (by rw [dl_length]; exact hi), <- List.getD_eq_getElem?_getD, ih hi]
    · have : i = L := by omega
      subst this
      rw [List.getElem?_append_right (by rw [dl_length]; exact Nat.le_refl _), dl_length, Nat.sub_self]; rfl
theorem drop_cons {l : List Int} {n : Nat} (h : n < l.length) : l.drop n = l.getD n 0 :: l.drop (n + 1) := by
  rw [List.drop_eq_getElem_cons h, List.getD_eq_getElem?_getD, List.getElem?_eq_getElem h]; rfl
theorem mval_take_succ' {b : List Int} {k : Nat} : mval (b.take (k + 1)) = mval (b.take k) + 4294967296 ^ k * (b.getD k 0).toNat := mval_take_all k
theorem dl_mid_set (U V L p : Nat) (h : p < L) : (dl U p ++ (dl V L).drop p).set p ((U / 4294967296 ^ p % 4294967296 : Nat) : Int) = dl U (p + 1) ++ (dl V L).drop (p + 1) := by
  rw [drop_cons (by rw [dl_length]; exact h), set_append_at _ _ _ _ _ (by rw [dl_length])]
  show _ = (dl U p ++ [_]) ++ _
  rw [List.append_assoc]; rfl
theorem dl_mid_get (U V L p : Nat) (h : p < L) : (dl U p ++ (dl V L).drop p).getD p 0 = ((V / 4294967296 ^ p % 4294967296 : Nat) : Int) := by
  rw [drop_cons (by rw [dl_length]; exact h), getD_append_at (by rw [dl_length]), dl_getD V h]
theorem dl_mid_len (U V L p : Nat) (h : p <= L) : (dl U p ++ (dl V L).drop p).length = L := by simp [dl_length]; omega
theorem dl_beyond {U L p : Nat} (hU : U < 4294967296 ^ p) (h : p <= L) {V : Nat} (hV : V < 4294967296 ^ p) : dl U p ++ (dl V L).drop p = dl U L := by
  induction L with
  | zero =>
    have : p = 0 := by omega
    subst this; rfl
  | succ L ih =>
    by_cases hp : p = L + 1
    · subst hp; rw [List.drop_of_length_le (by rw [dl_length]; omega), List.append_nil]
    · have hpL : p <= L := by omega
      have e : ∀ X, X < 4294967296 ^ p -> dl X (L + 1) = dl X L ++ [0] := by
        intro X hX
        show dl X L ++ [((X / 4294967296 ^ L % 4294967296 : Nat) : Int)] = _
        rw [Nat.div_eq_of_lt (Nat.lt_of_lt_of_le hX (Nat.pow_le_pow_right (by decide) hpL))]; rfl
      rw [e V hV, e U hU, List.drop_append_of_le_length (by rw [dl_length]; exact hpL), <- List.append_assoc, ih hpL]
theorem mval_bound {a : List Int} (ha : InW a) (i : Nat) : mval (a.take i) < 4294967296 ^ i := mval_take_lt ha i
theorem mul_lt_pow {x y i j : Nat} (hx : x < 4294967296 ^ i) (hy : y < 4294967296 ^ j) : x * y < 4294967296 ^ (i + j) := by
  rw [Nat.pow_add]
  exact Nat.mul_lt_mul'' hx hy
theorem law_times {N : Nat} (a b : List Int) (ha : InW a) (hb : InW b) (hN : a.length + b.length + 2 < N) (hs : a.length + b.length <= 17592186044416) (k : List Int -> Bool) : sj153 N a b k = k (digs (mval a * mval b)) := by
  unfold sj153 Gj153
  have eL : Int.toNat (((a.length : Nat) : Int) + ((b.length : Nat) : Int)) = a.length + b.length := by omega
  rw [and_tr (fits_ok (by omega) (by omega)), and_tr (mkOk_ok (by omega) (by omega) (by omega) (by omega)), eL]
  let L := a.length + b.length
  let B := mval b
  have hB : B < 4294967296 ^ b.length := mval_lt hb
  refine iterG_from0 (fun i => ((i : Int), dl (mval (a.take i) * B) L)) a.length ?_ (by omega) (fun i hi K => ?_) (fun K => ?_)
  · show ((0 : Int), List.replicate L (0 : Int)) = (((0 : Nat) : Int), dl (mval (a.take 0) * B) L)
    have := dl_of_zero L 0
    rw [Nat.mul_zero] at this
    rw [List.take_zero, show mval [] = 0 from rfl, Nat.zero_mul, this]; rfl
  · simp only [st_z00_times_0]
    rw [decide_eq_true (by omega : (i : Int) < a.length), cond_true]
    have hx := ha.at (i := i)
    let V := mval (a.take i) * B
    let x := (a.getD i 0).toNat
    let U := mval (a.take (i + 1)) * B
    have hU : U = V + x * B * 4294967296 ^ i := by
      simp only [U, V, x]
      rw [mval_take_succ']
      grind
    have hV : V < 4294967296 ^ (i + b.length) := mul_lt_pow (mval_bound ha i) hB
    have hUl : U < 4294967296 ^ (i + 1 + b.length) := mul_lt_pow (mval_bound ha (i + 1)) hB
    let c := fun j => (V % 4294967296 ^ (i + j) + x * mval (b.take j) * 4294967296 ^ i) / 4294967296 ^ (i + j)
    refine iterG_from0 (fun j => (((c j : Nat) : Int), (j : Int), dl U (i + j) ++ (dl V L).drop (i + j))) b.length ?_ (by omega) (fun j hj K' => ?_) (fun K' => ?_)
    · show ((0 : Int), (0 : Int), dl V L) = _
      have h0 : c 0 = 0 := by
        simp only [c, List.take_zero, show mval [] = 0 from rfl, Nat.mul_zero, Nat.zero_mul, Nat.add_zero]
        exact Nat.div_eq_of_lt (Nat.mod_lt _ (Nat.pow_pos (by decide)))
      have hlow : dl U i = dl V i := by
        have : ∀ n, n <= i -> dl U n = dl V n := by
          intro n
          induction n with
          | zero => intro _; rfl
          | succ n ih =>
            intro hn
            show dl U n ++ [_] = dl V n ++ [_]
            rw [ih (by omega)]
            congr 3
            have : U = V + 4294967296 ^ (n + 1) * (x * B * 4294967296 ^ (i - (n + 1))) := by
              rw [hU, Nat.mul_left_comm, <- Nat.pow_add, show n + 1 + (i - (n + 1)) = i by omega]
            exact digit_of this
        exact this i (Nat.le_refl _)
      have hsp : dl V i ++ (dl V L).drop i = dl V L := by
        have : ∀ n, i <= n -> dl V i ++ (dl V n).drop i = dl V n := by
          intro n
          induction n with
          | zero => intro h; have : i = 0 := by omega
                    subst this; rfl
          | succ n ih =>
            intro h
            by_cases hn : i = n + 1
            · subst hn; rw [List.drop_of_length_le (by rw [dl_length]; omega), List.append_nil]
            · show dl V i ++ (dl V n ++ [_]).drop i = dl V n ++ [_]
              rw [List.drop_append_of_le_length (by rw [dl_length]; omega), <- List.append_assoc, ih (by omega)]
        exact this L (by simp only [L]; omega)
      rw [h0, Nat.add_zero, hlow, hsp]; rfl
    · have hy := hb.at (i := j)
      have hp : i + j < L := by simp only [L]; omega
      have hlen := dl_mid_len U V L (i + j) (by omega)
      have hget := dl_mid_get U V L (i + j) hp
      have hset := dl_mid_set U V L (i + j) hp
      have hc := carry_lt (V := V) (x := x) (i := i) (k := j) (Bk := mval (b.take j)) (by simp only [x]; omega) (mval_bound hb j)
      have hstep := carry_step V x (mval (b.take j)) (b.getD j 0).toNat i j
      obtain ⟨R, hR⟩ := mval_split_ge b (j + 1)
      have hdig := carry_digit V x (mval (b.take j)) (b.getD j 0).toNat i j R
      rw [<- mval_take_succ'] at hstep hdig
      rw [<- hR] at hdig
      have hUe : V + x * mval b * 4294967296 ^ i = U := hU.symm
      rw [hUe] at hdig
      have hxy : x * (b.getD j 0).toNat <= 4294967295 * 4294967295 := Nat.mul_le_mul (by simp only [x]; omega) (by omega)
      have eidx : Int.toNat ((i : Int) + (j : Int)) = i + j := by omega
      have hcj : ∀ n, c n = (V % 4294967296 ^ (i + n) + x * mval (b.take n) * 4294967296 ^ i) / 4294967296 ^ (i + n) := fun _ => rfl
      have hax : a.getD i 0 = (x : Int) := by simp only [x]; omega
      have hby : b.getD j 0 = ((b.getD j 0).toNat : Int) := by omega
      simp only [st_z00_times_2, Int.toNat_natCast, eidx, hlen, hget]
      rw [decide_eq_true (by omega : (j : Int) < b.length), cond_true, and_tr (inR_of (by omega) (by omega)), and_tr (inR_of (by omega) (by omega)), and_tr (fits_ok (by omega) (by omega)), and_tr (inR_of (by omega) (by omega)), and_tr (decide_eq_true (by omega)), and_tr (fits_ok (by omega) (by omega)), and_tr (inR_of (by omega) (by omega)), and_tr (decide_eq_true (by omega)), and_tr (fits_ok (by omega) (by omega))]
      have ec1 : c (j + 1) = (c j + V / 4294967296 ^ (i + j) % 4294967296 + x * (b.getD j 0).toNat) / 4294967296 := hstep
      have ed : U / 4294967296 ^ (i + j) % 4294967296 = (c j + V / 4294967296 ^ (i + j) % 4294967296 + x * (b.getD j 0).toNat) % 4294967296 := hdig
      have hcl : c j < 4294967296 := hc
      rw [ed] at hset
      have vlt : V / 4294967296 ^ (i + j) % 4294967296 < 4294967296 := Nat.mod_lt _ (by decide)
      rw [hax, hby, show i + (j + 1) = i + j + 1 by omega, <- hset]
      generalize V / 4294967296 ^ (i + j) % 4294967296 = v at *
      generalize (b.getD j 0).toNat = y at *
      generalize dl U (i + j) ++ (dl V L).drop (i + j) = l at *
      have et : ∀ q : Nat, q = c j + v + x * y -> IntKind.wrap .u64 ((IntKind.wrap .u64 ((IntKind.wrap .u64 ((IntKind.wrap .u64 (x : Int)) * (IntKind.wrap .u64 (y : Int)))) + (IntKind.wrap .u64 (v : Int)))) + ((c j : Nat) : Int)) = (q : Int) := by
        intro q hq
        have exy : ((x : Int)) * (y : Int) = ((x * y : Nat) : Int) := by rw [Int.natCast_mul]
        have hxl : x < 4294967296 := by simp only [x]; omega
        have hyl : y < 4294967296 := by omega
        have w1 : IntKind.wrap .u64 (x : Int) = x := by rw [wrap64]; omega
        have w2 : IntKind.wrap .u64 (y : Int) = y := by rw [wrap64]; omega
        rw [w1, w2, exy, wrap64, wrap64, wrap64, wrap64]
        omega
      rw [et _ rfl, ec1, fdiv32, wrap32]
      congr 1
    · simp only [st_z00_times_2]
      rw [decide_eq_false (by omega : ¬ (b.length : Int) < b.length), cond_false]
      have hlen := dl_mid_len U V L (i + b.length) (by simp only [L]; omega)
      have hset := dl_mid_set U V L (i + b.length) (by simp only [L]; omega)
      have eidx : Int.toNat ((i : Int) + (b.length : Int)) = i + b.length := by omega
      have hLe : i + b.length < L := by simp only [L]; omega
      have hc : c b.length = U / 4294967296 ^ (i + b.length) := by
        simp only [c]
        rw [List.take_length, Nat.mod_eq_of_lt hV, hU]
      have hcl : U / 4294967296 ^ (i + b.length) < 4294967296 := by
        rw [Nat.div_lt_iff_lt_mul (Nat.pow_pos (by decide))]
        have : i + 1 + b.length = i + b.length + 1 := by omega
        rw [this, Nat.pow_succ] at hUl
        omega
      have ew : IntKind.wrap .u32 ((c b.length : Nat) : Int) = ((U / 4294967296 ^ (i + b.length) % 4294967296 : Nat) : Int) := by rw [wrap32, hc]; omega
      have hfin := dl_beyond (U := U) (V := V) (L := L) (p := i + b.length + 1) (by rw [show i + b.length + 1 = i + 1 + b.length by omega]; exact hUl) (by omega) (Nat.lt_of_lt_of_le hV (Nat.pow_le_pow_right (by decide) (by omega)))
      rw [and_tr (fits_ok (by omega) (by omega)), eidx, hlen, and_tr (inR_of (by omega) (by omega)), and_tr (decide_eq_true (by omega)), and_tr (fits_ok (by omega) (by omega)), ew, hset, hfin]
      rfl
  · simp only [st_z00_times_0]
    rw [decide_eq_false (by omega : ¬ (a.length : Int) < a.length), cond_false, List.take_length, law_cut_take _ (dl_inW _ _) (by rw [dl_length]; simp only [L]; omega) (by rw [dl_length]; simp only [L]; omega)]
    rw [digs_dl (mul_lt_pow (mval_lt ha) hB)]

theorem ival_mul (g h : Bool) (m n : Nat) : ival (g != h) (m * n) = ival g m * ival h n := by
  unfold ival
  rw [Int.natCast_mul]
  cases g <;> cases h <;> simp [Int.neg_mul, Int.mul_neg]
theorem law_IntMul {N : Nat} (b g h : Bool) (m n : Nat) (hN : (digs m).length + (digs n).length + 4 < N) (hs : (digs m).length + (digs n).length <= 17592186044416) (k : Bool -> List Int -> Bool) :
    sj84 N b g (digs m) h (digs n) k = intK (ival g m * ival h n) k := by
  unfold sj84 Gj84
  have hl : (digs (m * n)).length <= (digs m).length + (digs n).length := by
    refine digs_len_le _ _ (mul_lt_pow ?_ ?_)
    · have := mval_lt (digs_inW m); rwa [mval_digs] at this
    · have := mval_lt (digs_inW n); rwa [mval_digs] at this
  rw [law_times _ _ (digs_inW m) (digs_inW n) (by omega) hs, mval_digs, mval_digs, law_put_n _ _ _ (digs_inW _) ⟨by omega, by omega⟩, mval_digs, put_val _ _ k, ival_mul]
theorem cut_full (n : Nat) : cutLen (digs n) (digs n).length = (digs n).length := by
  have ht : (digs n).take (cutLen (digs n) (digs n).length) = digs n := by rw [take_cutLen (digs_inW n), mval_digs]
  have hc := cutLen_le (digs n) (digs n).length
  have := congrArg List.length ht
  rw [List.length_take] at this; omega
theorem neg_val (g : Bool) (n : Nat) (k : Bool -> List Int -> Bool) : cond ((!g) == true) (k (decide (((digs n).length : Int) > 0)) (digs n)) (k false (digs n)) = intK (-(ival g n)) k := by
  rw [put_k, put_val _ _ k]
  congr 1
  unfold ival; cases g <;> simp
theorem law_Neg_n {N : Nat} (b g : Bool) (n : Nat) (hN : Short N (digs n)) (k : Bool -> List Int -> Bool) : sj114 N b g (digs n) k = intK (-(ival g n)) k := by
  unfold sj114 Gj114 sj63 Gj63
  obtain ⟨h1, h2⟩ := hN
  rw [List.nil_append, decide_eq_true (by omega), Bool.true_and, law_cut_w _ (by omega) (by omega), cut_full]
  simp only [List.drop_zero, List.take_length]
  rw [decide_eq_true (by omega : 0 + (digs n).length <= (digs n).length), Bool.true_and]
  exact neg_val g n k
theorem law_Neg_r {N : Nat} (g : Bool) (n : Nat) (hN : Short N (digs n)) (k : Bool -> List Int -> Bool) : sj124 N g (digs n) k = intK (-(ival g n)) k := by
  unfold sj124 Gj124 sj128 Gj128
  obtain ⟨h1, h2⟩ := hN
  rw [List.nil_append, decide_eq_true (by omega), Bool.true_and, law_cut_w _ (by omega) (by omega), cut_full]
  simp only [List.drop_zero, List.take_length]
  rw [decide_eq_true (by omega : 0 + (digs n).length <= (digs n).length), Bool.true_and]
  exact neg_val g n k
theorem law_IntAdd {N : Nat} (b g1 : Bool) (n1 : Nat) (g2 : Bool) (n2 : Nat) (h1 : Short N (digs n1)) (h2 : Short N (digs n2)) (h3 : Short N (digs (n1 + n2))) (k : Bool -> List Int -> Bool) :
    sj51 N b g1 (digs n1) g2 (digs n2) k = intK (ival g1 n1 + ival g2 n2) k := by
  unfold sj51 Gj51
  rw [law_sum_n false b g1 n1 g2 n2 h1 h2 h3]; rfl

def Bits (B : Nat) (n : Nat) : Prop := n < 2 ^ B
theorem bits_len {B n : Nat} (h : Bits B n) : (digs n).length <= B / 32 + 1 := by
  refine digs_len_le _ _ ?_
  rw [pow32]
  exact Nat.lt_of_lt_of_le h (Nat.pow_le_pow_right (by decide) (by omega))
theorem bits_short {N B n : Nat} (hN : 1000 <= N) (hB : B <= 31000) (h : Bits B n) : Short N (digs n) := by
  have := bits_len h
  exact ⟨by omega, by omega⟩
theorem bits_mono {A B n : Nat} (h : Bits A n) (hAB : A <= B) : Bits B n := Nat.lt_of_lt_of_le h (Nat.pow_le_pow_right (by decide) hAB)
theorem bits_mul {A B m n : Nat} (h : Bits A m) (g : Bits B n) : Bits (A + B) (m * n) := by
  unfold Bits; rw [Nat.pow_add]; exact Nat.mul_lt_mul'' h g
theorem bits_shift {A m : Nat} (h : Bits A m) (s : Nat) : Bits (A + s) (m * 2 ^ s) := by
  unfold Bits; rw [Nat.pow_add]; exact Nat.mul_lt_mul_of_pos_right h (Nat.two_pow_pos s)
theorem bits_add {A m n : Nat} (h : Bits A m) (g : Bits A n) : Bits (A + 1) (m + n) := by
  unfold Bits at *; rw [Nat.pow_succ]; omega
theorem bits_le {A m n : Nat} (h : Bits A m) (g : n <= m) : Bits A n := Nat.lt_of_le_of_lt g h
theorem bits_shOk {N B n s : Nat} (hN : 1000 <= N) (hB : B + s <= 31000) (h : Bits B n) : shOk N n s := by
  have h1 := bits_len h
  exact ⟨by omega, by omega, by omega, bits_short hN hB (bits_shift h s)⟩

def exK (z : Int × Int) (k : Int -> Bool -> List Int -> Bool) : Bool := k z.1 (decide (z.2 < 0)) (digs z.2.natAbs)
def exMul (x y : Int × Int) : Int × Int := (x.1 + y.1, x.2 * y.2)
def exNeg (x : Int × Int) : Int × Int := (x.1, -x.2)
def exLow (x : Int × Int) (e : Int) : Int := x.2 * 2 ^ (x.1 - e).toNat
def exAdd (x y : Int × Int) : Int × Int := if x.2 = 0 then y else if y.2 = 0 then x else (min x.1 y.1, exLow x (min x.1 y.1) + exLow y (min x.1 y.1))
def Ex (E B : Nat) (x : Int × Int) : Prop := -(E : Int) <= x.1 /\ x.1 <= E /\ Bits B x.2.natAbs
def sgnI (z : Int) : Int := if z = 0 then 0 else if z < 0 then -1 else 1
theorem imm_min (a b : Int) : imm false a b = min a b := by
  unfold imm; simp only [cond_false]
  by_cases h : b < a
  · rw [decide_eq_true h, cond_true]; omega
  · rw [decide_eq_false h, cond_false]; omega
end Go.Proofs.YtccocdgimamdhaaGreatDoor
