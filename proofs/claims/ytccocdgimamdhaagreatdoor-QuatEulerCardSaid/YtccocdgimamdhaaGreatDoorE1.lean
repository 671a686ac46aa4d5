/-
  PURE: the document's whole numbers (binnacleref00): products; signs turned.
  Conditions: N large, lists short, each a word.
-/
import Derived.Test.YtccocdgimamdhaaGreatDoorQbig
import Derived.Test.YtccocdgimamdhaaGreatDoorR0
import Derived.Test.YtccocdgimamdhaaGreatDoorFlA
import Derived.Test.YtccocdgimamdhaaGreatDoorS0
section
namespace Go.Proofs.YtccocdgimamdhaaGreatDoor
open Go Go.Mach

theorem mul_num (V x Bk bk i k : Nat) : V % 4294967296 ^ (i + k + 1) + x * (Bk + 4294967296 ^ k * bk) * 4294967296 ^ i = (V % 4294967296 ^ (i + k) + x * Bk * 4294967296 ^ i) + 4294967296 ^ (i + k) * (V / 4294967296 ^ (i + k) % 4294967296 + x * bk) := by
  rw [Nat.mod_pow_succ, Nat.pow_add]
  grind
theorem carry_step (V x Bk bk i k : Nat) : (V % 4294967296 ^ (i + k + 1) + x * (Bk + 4294967296 ^ k * bk) * 4294967296 ^ i) / 4294967296 ^ (i + k + 1) = ((V % 4294967296 ^ (i + k) + x * Bk * 4294967296 ^ i) / 4294967296 ^ (i + k) + V / 4294967296 ^ (i + k) % 4294967296 + x * bk) / 4294967296 := by
  rw [mul_num, Nat.pow_succ, <- Nat.div_div_eq_div_mul, Nat.add_mul_div_left _ _ (Nat.pow_pos (by decide)), Nat.add_assoc]
theorem carry_digit (V x Bk bk i k R : Nat) : (V + x * (Bk + 4294967296 ^ k * bk + 4294967296 ^ (k + 1) * R) * 4294967296 ^ i) / 4294967296 ^ (i + k) % 4294967296 = ((V % 4294967296 ^ (i + k) + x * Bk * 4294967296 ^ i) / 4294967296 ^ (i + k) + V / 4294967296 ^ (i + k) % 4294967296 + x * bk) % 4294967296 := by
  have e : V + x * (Bk + 4294967296 ^ k * bk + 4294967296 ^ (k + 1) * R) * 4294967296 ^ i = (V % 4294967296 ^ (i + k + 1) + x * (Bk + 4294967296 ^ k * bk) * 4294967296 ^ i) + 4294967296 ^ (i + k + 1) * (V / 4294967296 ^ (i + k + 1) + x * R) := by
    have h := Nat.div_add_mod V (4294967296 ^ (i + k + 1))
    have h2 : 4294967296 ^ (i + k + 1) = 4294967296 ^ (k + 1) * 4294967296 ^ i := by rw [<- Nat.pow_add]; congr 1; omega
    generalize V / 4294967296 ^ (i + k + 1) = q at *
    generalize V % 4294967296 ^ (i + k + 1) = r at *
    rw [<- h, h2]
    grind
  rw [digit_of e, mul_num, Nat.add_mul_div_left _ _ (Nat.pow_pos (by decide)), Nat.add_assoc]
theorem carry_lt {V x Bk i k : Nat} (hx : x < 4294967296) (hB : Bk < 4294967296 ^ k) : (V % 4294967296 ^ (i + k) + x * Bk * 4294967296 ^ i) / 4294967296 ^ (i + k) < 4294967296 := by
  rw [Nat.div_lt_iff_lt_mul (Nat.pow_pos (by decide))]
  have h1 : V % 4294967296 ^ (i + k) < 4294967296 ^ (i + k) := Nat.mod_lt _ (Nat.pow_pos (by decide))
  have h2 : x * Bk <= 4294967295 * 4294967296 ^ k := Nat.mul_le_mul (by omega) (by omega)
  have h3 : x * Bk * 4294967296 ^ i <= 4294967295 * 4294967296 ^ (i + k) := by
    have := Nat.mul_le_mul_right (4294967296 ^ i) h2
    rwa [Nat.mul_assoc 4294967295, <- Nat.pow_add, Nat.add_comm k i] at this
  omega
theorem dl_getD (S : Nat) {L i : Nat} (h : i < L) : (dl S L).getD i 0 = ((S / 4294967296 ^ i % 4294967296 : Nat) : Int) := by
  induction L with
  | zero => omega
  | succ L ih =>
    show ((dl S L) ++ [_]).getD i 0 = _
    rw [List.getD_eq_getElem?_getD]
    by_cases hi : i < L
    · rw [List.getElem?_append_left (by rw [dl_length]; exact hi), <- List.getD_eq_getElem?_getD, ih hi]
    · have : i = L := by omega
      subst this
      rw [List.getElem?_append_right (by rw [dl_length]; exact Nat.le_refl _), dl_length, Nat.sub_self]; rfl
theorem drop_cons {l : List Int} {n : Nat} (h : n < l.length) : l.drop n = l.getD n 0 :: l.drop (n + 1) := by
  rw [List.drop_eq_getElem_cons h, List.getD_eq_getElem?_getD, List.getElem?_eq_getElem h]; rfl
theorem mval_take_succ' {b : List Int} {k : Nat} : mval (b.take (k + 1)) = mval (b.take k) + 4294967296 ^ k * (b.getD k 0).toNat := mval_take_all k
theorem dl_mid_set (U V L p : Nat) (h : p < L) : (dl U p ++ (dl V L).drop p).set p ((U / 4294967296 ^ p % 4294967296 : Nat) : Int) = dl U (p + 1) ++ (dl V L).drop (p + 1) := by
  rw [drop_cons (by rw [dl_length]; exact h), set_append_at _ _ _ _ _ (by rw [dl_length])]
  show _ = (dl U p ++ [_]) ++ _
  rw [List.append_assoc]; rfl
theorem dl_mid_get (U V L p : Nat) (h : p < L) : (dl U p ++ (dl V L).drop p).getD p 0 = ((V / 4294967296 ^ p % 4294967296 : Nat) : Int) := by
  rw [drop_cons (by rw [dl_length]; exact h), getD_append_at (by rw [dl_length]), dl_getD V h]
theorem dl_mid_len (U V L p : Nat) (h : p <= L) : (dl U p ++ (dl V L).drop p).length = L := by simp [dl_length]; omega
theorem dl_beyond {U L p : Nat} (hU : U < 4294967296 ^ p) (h : p <= L) {V : Nat} (hV : V < 4294967296 ^ p) : dl U p ++ (dl V L).drop p = dl U L := by
  induction L with
  | zero =>
    have : p = 0 := by omega
    subst this; rfl
  | succ L ih =>
    by_cases hp : p = L + 1
    · subst hp; rw [List.drop_of_length_le (by rw [dl_length]; omega), List.append_nil]
    · have hpL : p <= L := by omega
      have e : ∀ X, X < 4294967296 ^ p -> dl X (L + 1) = dl X L ++ [0] := by
        intro X hX
        show dl X L ++ [((X / 4294967296 ^ L % 4294967296 : Nat) : Int)] = _
        rw [Nat.div_eq_of_lt (Nat.lt_of_lt_of_le hX (Nat.pow_le_pow_right (by decide) hpL))]; rfl
      rw [e V hV, e U hU, List.drop_append_of_le_length (by rw [dl_length]; exact hpL), <- List.append_assoc, ih hpL]
theorem mval_bound {a : List Int} (ha : InW a) (i : Nat) : mval (a.take i) < 4294967296 ^ i := mval_take_lt ha i
theorem mul_lt_pow {x y i j : Nat} (hx : x < 4294967296 ^ i) (hy : y < 4294967296 ^ j) : x * y < 4294967296 ^ (i + j) := by
  rw [Nat.pow_add]
  exact Nat.mul_lt_mul'' hx hy
theorem law_times {N : Nat} (a b : List Int) (ha : InW a) (hb : InW b) (hN : a.length + b.length + 2 < N) (hs : a.length + b.length <= 17592186044416) (k : List Int -> Bool) : s_q101 N a b k = k (digs (mval a * mval b)) := by
  unfold s_q101 G_q101
  have eL : Int.toNat (((a.length : Nat) : Int) + ((b.length : Nat) : Int)) = a.length + b.length := by omega
  rw [and_tr (fits_ok (by omega) (by omega)), and_tr (mkOk_ok (by omega) (by omega) (by omega) (by omega)), eL]
  let L := a.length + b.length
  let B := mval b
  have hB : B < 4294967296 ^ b.length := mval_lt hb
  refine iterG_from0 (fun i => ((i : Int), dl (mval (a.take i) * B) L)) a.length ?_ (by omega) (fun i hi K => ?_) (fun K => ?_)
  · show ((0 : Int), List.replicate L (0 : Int)) = (((0 : Nat) : Int), dl (mval (a.take 0) * B) L)
    have := dl_of_zero L 0
    rw [Nat.mul_zero] at this
    rw [List.take_zero, show mval [] = 0 from rfl, Nat.zero_mul, this]; rfl
  · simp only [st_z00_times_0]
    rw [decide_eq_true (by omega : (i : Int) < a.length), cond_true]
    have hx := ha.at (i := i)
    let V := mval (a.take i) * B
    let x := (a.getD i 0).toNat
    let U := mval (a.take (i + 1)) * B
    have hU : U = V + x * B * 4294967296 ^ i := by
      simp only [U, V, x]
      rw [mval_take_succ']
      grind
    have hV : V < 4294967296 ^ (i + b.length) := mul_lt_pow (mval_bound ha i) hB
    have hUl : U < 4294967296 ^ (i + 1 + b.length) := mul_lt_pow (mval_bound ha (i + 1)) hB
    let c := fun j => (V % 4294967296 ^ (i + j) + x * mval (b.take j) * 4294967296 ^ i) / 4294967296 ^ (i + j)
    refine iterG_from0 (fun j => (((c j : Nat) : Int), (j : Int), dl U (i + j) ++ (dl V L).drop (i + j))) b.length ?_ (by omega) (fun j hj K' => ?_) (fun K' => ?_)
    · show ((0 : Int), (0 : Int), dl V L) = _
      have h0 : c 0 = 0 := by
        simp only [c, List.take_zero, show mval [] = 0 from rfl, Nat.mul_zero, Nat.zero_mul, Nat.add_zero]
        exact Nat.div_eq_of_lt (Nat.mod_lt _ (Nat.pow_pos (by decide)))
      have hlow : dl U i = dl V i := by
        have : ∀ n, n <= i -> dl U n = dl V n := by
          intro n
          induction n with
          | zero => intro _; rfl
          | succ n ih =>
            intro hn
            show dl U n ++ [_] = dl V n ++ [_]
            rw [ih (by omega)]
            congr 3
            have : U = V + 4294967296 ^ (n + 1) * (x * B * 4294967296 ^ (i - (n + 1))) := by
              rw [hU, Nat.mul_left_comm, <- Nat.pow_add, show n + 1 + (i - (n + 1)) = i by omega]
            exact digit_of this
        exact this i (Nat.le_refl _)
      have hsp : dl V i ++ (dl V L).drop i = dl V L := by
        have : ∀ n, i <= n -> dl V i ++ (dl V n).drop i = dl V n := by
          intro n
          induction n with
          | zero => intro h; have : i = 0 := by omega
                    subst this; rfl
          | succ n ih =>
            intro h
            by_cases hn : i = n + 1
            · subst hn; rw [List.drop_of_length_le (by rw [dl_length]; omega), List.append_nil]
            · show dl V i ++ (dl V n ++ [_]).drop i = dl V n ++ [_]
              rw [List.drop_append_of_le_length (by rw [dl_length]; omega), <- List.append_assoc, ih (by omega)]
        exact this L (by simp only [L]; omega)
      rw [h0, Nat.add_zero, hlow, hsp]; rfl
    · have hy := hb.at (i := j)
      have hp : i + j < L := by simp only [L]; omega
      have hlen := dl_mid_len U V L (i + j) (by omega)
      have hget := dl_mid_get U V L (i + j) hp
      have hset := dl_mid_set U V L (i + j) hp
      have hc := carry_lt (V := V) (x := x) (i := i) (k := j) (Bk := mval (b.take j)) (by simp only [x]; omega) (mval_bound hb j)
      have hstep := carry_step V x (mval (b.take j)) (b.getD j 0).toNat i j
      obtain ⟨R, hR⟩ := mval_split_ge b (j + 1)
      have hdig := carry_digit V x (mval (b.take j)) (b.getD j 0).toNat i j R
      rw [<- mval_take_succ'] at hstep hdig
      rw [<- hR] at hdig
      have hUe : V + x * mval b * 4294967296 ^ i = U := hU.symm
      rw [hUe] at hdig
      have hxy : x * (b.getD j 0).toNat <= 4294967295 * 4294967295 := Nat.mul_le_mul (by simp only [x]; omega) (by omega)
      have eidx : Int.toNat ((i : Int) + (j : Int)) = i + j := by omega
      have hcj : ∀ n, c n = (V % 4294967296 ^ (i + n) + x * mval (b.take n) * 4294967296 ^ i) / 4294967296 ^ (i + n) := fun _ => rfl
      have hax : a.getD i 0 = (x : Int) := by simp only [x]; omega
      have hby : b.getD j 0 = ((b.getD j 0).toNat : Int) := by omega
      simp only [st_z00_times_2, Int.toNat_natCast, eidx, hlen, hget]
      rw [decide_eq_true (by omega : (j : Int) < b.length), cond_true, and_tr (inR_of (by omega) (by omega)), and_tr (inR_of (by omega) (by omega)), and_tr (fits_ok (by omega) (by omega)), and_tr (inR_of (by omega) (by omega)), and_tr (decide_eq_true (by omega)), and_tr (fits_ok (by omega) (by omega)), and_tr (inR_of (by omega) (by omega)), and_tr (decide_eq_true (by omega)), and_tr (fits_ok (by omega) (by omega))]
      have ec1 : c (j + 1) = (c j + V / 4294967296 ^ (i + j) % 4294967296 + x * (b.getD j 0).toNat) / 4294967296 := hstep
      have ed : U / 4294967296 ^ (i + j) % 4294967296 = (c j + V / 4294967296 ^ (i + j) % 4294967296 + x * (b.getD j 0).toNat) % 4294967296 := hdig
      have hcl : c j < 4294967296 := hc
      rw [ed] at hset
      have vlt : V / 4294967296 ^ (i + j) % 4294967296 < 4294967296 := Nat.mod_lt _ (by decide)
      rw [hax, hby, show i + (j + 1) = i + j + 1 by omega, <- hset]
      generalize V / 4294967296 ^ (i + j) % 4294967296 = v at *
      generalize (b.getD j 0).toNat = y at *
      generalize dl U (i + j) ++ (dl V L).drop (i + j) = l at *
      have et : ∀ q : Nat, q = c j + v + x * y -> IntKind.wrap .u64 ((IntKind.wrap .u64 ((IntKind.wrap .u64 ((IntKind.wrap .u64 (x : Int)) * (IntKind.wrap .u64 (y : Int)))) + (IntKind.wrap .u64 (v : Int)))) + ((c j : Nat) : Int)) = (q : Int) := by
        intro q hq
        have exy : ((x : Int)) * (y : Int) = ((x * y : Nat) : Int) := by rw [Int.natCast_mul]
        have hxl : x < 4294967296 := by simp only [x]; omega
        have hyl : y < 4294967296 := by omega
        have w1 : IntKind.wrap .u64 (x : Int) = x := by rw [wrap64]; omega
        have w2 : IntKind.wrap .u64 (y : Int) = y := by rw [wrap64]; omega
        rw [w1, w2, exy, wrap64, wrap64, wrap64, wrap64]
        omega
      rw [et _ rfl, ec1, fdiv32, wrap32]
      congr 1
    · simp only [st_z00_times_2]
      rw [decide_eq_false (by omega : ¬ (b.length : Int) < b.length), cond_false]
      have hlen := dl_mid_len U V L (i + b.length) (by simp only [L]; omega)
      have hset := dl_mid_set U V L (i + b.length) (by simp only [L]; omega)
      have eidx : Int.toNat ((i : Int) + (b.length : Int)) = i + b.length := by omega
      have hLe : i + b.length < L := by simp only [L]; omega
      have hc : c b.length = U / 4294967296 ^ (i + b.length) := by
        simp only [c]
        rw [List.take_length, Nat.mod_eq_of_lt hV, hU]
      have hcl : U / 4294967296 ^ (i + b.length) < 4294967296 := by
        rw [Nat.div_lt_iff_lt_mul (Nat.pow_pos (by decide))]
        have : i + 1 + b.length = i + b.length + 1 := by omega
        rw [this, Nat.pow_succ] at hUl
        omega
      have ew : IntKind.wrap .u32 ((c b.length : Nat) : Int) = ((U / 4294967296 ^ (i + b.length) % 4294967296 : Nat) : Int) := by rw [wrap32, hc]; omega
      have hfin := dl_beyond (U := U) (V := V) (L := L) (p := i + b.length + 1) (by rw [show i + b.length + 1 = i + 1 + b.length by omega]; exact hUl) (by omega) (Nat.lt_of_lt_of_le hV (Nat.pow_le_pow_right (by decide) (by omega)))
      rw [and_tr (fits_ok (by omega) (by omega)), eidx, hlen, and_tr (inR_of (by omega) (by omega)), and_tr (decide_eq_true (by omega)), and_tr (fits_ok (by omega) (by omega)), ew, hset, hfin]
      rfl
  · simp only [st_z00_times_0]
    rw [decide_eq_false (by omega : ¬ (a.length : Int) < a.length), cond_false, List.take_length, law_cut_take _ (dl_inW _ _) (by rw [dl_length]; simp only [L]; omega) (by rw [dl_length]; simp only [L]; omega)]
    rw [digs_dl (mul_lt_pow (mval_lt ha) hB)]

theorem ival_mul (g h : Bool) (m n : Nat) : ival (g != h) (m * n) = ival g m * ival h n := by
  unfold ival
  rw [Int.natCast_mul]
  cases g <;> cases h <;> simp [Int.neg_mul, Int.mul_neg]
theorem law_IntMul {N : Nat} (b g h : Bool) (m n : Nat) (hN : (digs m).length + (digs n).length + 4 < N) (hs : (digs m).length + (digs n).length <= 17592186044416) (k : Bool -> List Int -> Bool) :
    s_q61 N b g (digs m) h (digs n) k = intK (ival g m * ival h n) k := by
  unfold s_q61 G_q61
  have hl : (digs (m * n)).length <= (digs m).length + (digs n).length := by
    refine digs_len_le _ _ (mul_lt_pow ?_ ?_)
    · have := mval_lt (digs_inW m); rwa [mval_digs] at this
    · have := mval_lt (digs_inW n); rwa [mval_digs] at this
  rw [law_times _ _ (digs_inW m) (digs_inW n) (by omega) hs, mval_digs, mval_digs, law_put_n _ _ _ (digs_inW _) ⟨by omega, by omega⟩, mval_digs, put_val _ _ k, ival_mul]
theorem cut_full (n : Nat) : cutLen (digs n) (digs n).length = (digs n).length := by
  have ht : (digs n).take (cutLen (digs n) (digs n).length) = digs n := by rw [take_cutLen (digs_inW n), mval_digs]
  have hc := cutLen_le (digs n) (digs n).length
  have := congrArg List.length ht
  rw [List.length_take] at this; omega
theorem neg_val (g : Bool) (n : Nat) (k : Bool -> List Int -> Bool) : cond ((!g) == true) (k (decide (((digs n).length : Int) > 0)) (digs n)) (k false (digs n)) = intK (-(ival g n)) k := by
  rw [put_k, put_val _ _ k]
  congr 1
  unfold ival; cases g <;> simp
theorem law_Neg_n {N : Nat} (b g : Bool) (n : Nat) (hN : Short N (digs n)) (k : Bool -> List Int -> Bool) : s_q73 N b g (digs n) k = intK (-(ival g n)) k := by
  unfold s_q73 G_q73 s_q82 G_q82
  obtain ⟨h1, h2⟩ := hN
  rw [List.nil_append, decide_eq_true (by omega), Bool.true_and, law_cut_w _ (by omega) (by omega), cut_full]
  simp only [List.drop_zero, List.take_length]
  rw [decide_eq_true (by omega : 0 + (digs n).length <= (digs n).length), Bool.true_and]
  exact neg_val g n k
theorem law_Neg_r {N : Nat} (g : Bool) (n : Nat) (hN : Short N (digs n)) (k : Bool -> List Int -> Bool) : s_q81 N g (digs n) k = intK (-(ival g n)) k := by
  unfold s_q81 G_q81 s_q83 G_q83
  obtain ⟨h1, h2⟩ := hN
  rw [List.nil_append, decide_eq_true (by omega), Bool.true_and, law_cut_w _ (by omega) (by omega), cut_full]
  simp only [List.drop_zero, List.take_length]
  rw [decide_eq_true (by omega : 0 + (digs n).length <= (digs n).length), Bool.true_and]
  exact neg_val g n k
theorem law_IntAdd {N : Nat} (b g1 : Bool) (n1 : Nat) (g2 : Bool) (n2 : Nat) (h1 : Short N (digs n1)) (h2 : Short N (digs n2)) (h3 : Short N (digs (n1 + n2))) (k : Bool -> List Int -> Bool) :
    s_q36 N b g1 (digs n1) g2 (digs n2) k = intK (ival g1 n1 + ival g2 n2) k := by
  unfold s_q36 G_q36
  rw [law_sum_n false b g1 n1 g2 n2 h1 h2 h3]; rfl

def Bits (B : Nat) (n : Nat) : Prop := n < 2 ^ B
theorem bits_len {B n : Nat} (h : Bits B n) : (digs n).length <= B / 32 + 1 := by
  refine digs_len_le _ _ ?_
  rw [pow32]
  exact Nat.lt_of_lt_of_le h (Nat.pow_le_pow_right (by decide) (by omega))
theorem bits_short {N B n : Nat} (hN : 1000 <= N) (hB : B <= 31000) (h : Bits B n) : Short N (digs n) := by
  have := bits_len h
  exact ⟨by omega, by omega⟩
theorem bits_mono {A B n : Nat} (h : Bits A n) (hAB : A <= B) : Bits B n := Nat.lt_of_lt_of_le h (Nat.pow_le_pow_right (by decide) hAB)
theorem bits_mul {A B m n : Nat} (h : Bits A m) (g : Bits B n) : Bits (A + B) (m * n) := by
  unfold Bits; rw [Nat.pow_add]; exact Nat.mul_lt_mul'' h g
theorem bits_shift {A m : Nat} (h : Bits A m) (s : Nat) : Bits (A + s) (m * 2 ^ s) := by
  unfold Bits; rw [Nat.pow_add]; exact Nat.mul_lt_mul_of_pos_right h (Nat.two_pow_pos s)
theorem bits_add {A m n : Nat} (h : Bits A m) (g : Bits A n) : Bits (A + 1) (m + n) := by
  unfold Bits at *; rw [Nat.pow_succ]; omega
theorem bits_le {A m n : Nat} (h : Bits A m) (g : n <= m) : Bits A n := Nat.lt_of_le_of_lt g h
theorem bits_shOk {N B n s : Nat} (hN : 1000 <= N) (hB : B + s <= 31000) (h : Bits B n) : shOk N n s := by
  have h1 := bits_len h
  exact ⟨by omega, by omega, by omega, bits_short hN hB (bits_shift h s)⟩

def exK (z : Int × Int) (k : Int -> Bool -> List Int -> Bool) : Bool := k z.1 (decide (z.2 < 0)) (digs z.2.natAbs)
def exMul (x y : Int × Int) : Int × Int := (x.1 + y.1, x.2 * y.2)
def exNeg (x : Int × Int) : Int × Int := (x.1, -x.2)
def exLow (x : Int × Int) (e : Int) : Int := x.2 * 2 ^ (x.1 - e).toNat
def exAdd (x y : Int × Int) : Int × Int := if x.2 = 0 then y else if y.2 = 0 then x else (min x.1 y.1, exLow x (min x.1 y.1) + exLow y (min x.1 y.1))
def Ex (E B : Nat) (x : Int × Int) : Prop := -(E : Int) <= x.1 /\ x.1 <= E /\ Bits B x.2.natAbs
def sgnI (z : Int) : Int := if z = 0 then 0 else if z < 0 then -1 else 1
theorem imm_min (a b : Int) : imm false a b = min a b := by
  unfold imm; simp only [cond_false]
  by_cases h : b < a
  · rw [decide_eq_true h, cond_true]; omega
  · rw [decide_eq_false h, cond_false]; omega
end Go.Proofs.YtccocdgimamdhaaGreatDoor
end
section
namespace Go.Proofs.YtccocdgimamdhaaGreatDoor
open Go Go.Mach Ieee
set_option linter.unusedVariables false

def odd2 : Nat -> Nat -> Int -> Nat × Int
  | 0, m, e => (m, e)
  | f + 1, m, e => if m % 2 = 0 then odd2 f (m / 2) (e + 1) else (m, e)
theorem odd2_facts : ∀ f m e, m ≠ 0 -> m < 2 ^ f -> e <= (odd2 f m e).2 /\ (odd2 f m e).2 <= e + f /\ (odd2 f m e).1 * 2 ^ ((odd2 f m e).2 - e).toNat = m /\ (odd2 f m e).1 <= m
  | 0, m, e, h0, h => by simp at h; omega
  | f + 1, m, e, h0, h => by
    unfold odd2
    split
    · rename_i hm
      obtain ⟨h1, h2, h3, h4⟩ := odd2_facts f (m / 2) (e + 1) (by omega) (by rw [Nat.pow_succ] at h; omega)
      refine ⟨by omega, by omega, ?_, by omega⟩
      have : ((odd2 f (m / 2) (e + 1)).2 - e).toNat = ((odd2 f (m / 2) (e + 1)).2 - (e + 1)).toNat + 1 := by omega
      rw [this, Nat.pow_succ, <- Nat.mul_assoc, h3]; omega
    · refine ⟨by omega, by omega, ?_, Nat.le_refl _⟩
      rw [Int.sub_self]; simp
theorem law_odd {N : Nat} (hN : 1000 <= N) {m : Nat} {e : Int} (h0 : m ≠ 0) (hm : m < 2 ^ 64) (he1 : -2000 <= e) (he2 : e <= 2000) (k : Int -> Int -> Bool) :
    s_q109 N m e k = k ((odd2 64 m e).1 : Int) (odd2 64 m e).2 := by
  unfold s_q109 G_q109
  have key : ∀ f : Nat, f <= 64 -> ∀ (m : Nat) (e : Int), m ≠ 0 -> m < 2 ^ f -> m < 2 ^ 64 -> -2000 <= e -> e + f <= 3000 -> ∀ M : Nat, f < M -> iterG M (st_z01_odd_0 N fun a b => k a b) ((m : Int), e) = k ((odd2 f m e).1 : Int) (odd2 f m e).2 := by
    intro f
    induction f with
    | zero => intro _ m e h0 h; simp at h; omega
    | succ f ih =>
      intro hf m e h0 h h64 h1 h2 M hM
      cases M with
      | zero => omega
      | succ M =>
        show st_z01_odd_0 N _ ((m : Int), e) (iterG M _) = _
        have e2 : Int.tmod (m : Int) 2 = ((m % 2 : Nat) : Int) := by rw [Int.tmod_eq_emod_of_nonneg (by omega)]; rfl
        have e3 : Int.tdiv (m : Int) 2 = ((m / 2 : Nat) : Int) := by rw [Int.tdiv_eq_ediv_of_nonneg (by omega)]; rfl
        simp only [st_z01_odd_0, odd2, e2, e3]
        by_cases hm : m % 2 = 0
        · have : (((m % 2 : Nat) : Int) == 0) = true := by rw [hm]; rfl
          have ew : IntKind.wrap .u64 ((m / 2 : Nat) : Int) = ((m / 2 : Nat) : Int) := by
            rw [wrap64]
            have : (2 : Nat) ^ 64 = 18446744073709551616 := by decide
            omega
          rw [this, cond_true, and_tr (fits_ok (by omega) (by omega)), if_pos hm, ew]
          exact ih (by omega) (m / 2) (e + 1) (by omega) (by rw [Nat.pow_succ] at h; omega) (by omega) (by omega) (by omega) M (by omega)
        · have : (((m % 2 : Nat) : Int) == 0) = false := by
            have : m % 2 = 1 := by omega
            rw [this]; rfl
          rw [this, cond_false, if_neg hm]
  have : ((m : Int) == 0) = false := by simp; omega
  rw [this, cond_false]
  exact key 64 (Nat.le_refl _) m e h0 hm hm (by omega) (by omega) N (by omega)
theorem law_odd0 (N : Nat) (e : Int) (k : Int -> Int -> Bool) : s_q109 N 0 e k = k 0 0 := by
  unfold s_q109 G_q109; rfl

def ofE (x : Fl) : Int × Int := match x with
  | some b => match Ieee.double.read b with
    | .number s m i => if m = 0 then (0, 0) else ((odd2 64 m i).2, ival s (odd2 64 m i).1)
    | _ => (0, 0)
  | none => (0, 0)
theorem ofE_num {b : Nat} {s : Bool} {m : Nat} {i : Int} (h : Ieee.double.read b = .number s m i) : ofE (some b) = if m = 0 then (0, 0) else ((odd2 64 m i).2, ival s (odd2 64 m i).1) := by unfold ofE; simp only [h]
theorem law_Parts {N : Nat} (hN : 1000 <= N) {b : Nat} (hb : W64 b) {s : Bool} {m : Nat} {i : Int} (h : Ieee.double.read b = .number s m i) (k : Bool -> Int -> Int -> Int -> Bool) :
    s_q103 N (some b) k = if m = 0 then k s 0 0 0 else k s ((odd2 64 m i).1 : Int) (odd2 64 m i).2 0 := by
  obtain ⟨h1, h2, h3⟩ := read_number h
  have hpl := place_le h
  have hnn : isNaN b = false := by
    rw [Bool.eq_false_iff]; intro hc; have := (isNaN_iff b).1 hc; omega
  have hbits : bitsF (some b) = b := by simp only [bitsF, cnb, hnn]; rfl
  have hsg : (Int.fdiv (b : Int) (2 ^ 63) == 1) = s := by
    have e : (2 : Int) ^ 63 = ((9223372036854775808 : Nat) : Int) := by decide
    rw [e, nat_fdiv, h1]
    have hW : b / 9223372036854775808 < 2 := by have := hb; omega
    have : b / 9223372036854775808 = 0 \/ b / 9223372036854775808 = 1 := by omega
    rcases this with h | h <;> rw [h] <;> rfl
  have fin : ∀ (e : Int), i = e - 1074 -> -1100 <= e -> e <= 2100 -> J_q146 N (s_q87 N) (s_q109 N) (some b) s e (m : Int) k = if m = 0 then k s 0 0 0 else k s ((odd2 64 m i).1 : Int) (odd2 64 m i).2 0 := by
    intro e he h5 h6
    unfold J_q146
    rw [and_tr (fits_ok (by omega) (by omega)), <- he]
    by_cases h0 : m = 0
    · subst h0; rw [if_pos rfl]; exact law_odd0 N i _
    · rw [if_neg h0, law_odd hN h0 (by have : (2 : Nat) ^ 64 = 18446744073709551616 := by decide
                                       omega) (by omega) (by omega)]
  unfold s_q103 G_q103
  rw [law_Split, hbits]
  rw [hsg]
  have n2047 : (((b / 4503599627370496 % 2048 : Nat) : Int) == 2047) = false := by simp; omega
  rw [n2047, cond_false]
  rcases h3 with ⟨g1, g2, g3⟩ | ⟨g1, g2, g3⟩
  · have e0 : b / 4503599627370496 % 2048 = 0 := by omega
    have e1 : b % 4503599627370496 = m := by omega
    rw [e0, e1, decide_eq_false (by decide), cond_false]
    exact fin 0 (by omega) (by omega) (by omega)
  · have e0 : 0 < b / 4503599627370496 % 2048 := by omega
    have e1 : IntKind.wrap .u64 (((b % 4503599627370496 : Nat) : Int) + 4503599627370496) = (m : Int) := by rw [wrap64]; omega
    rw [decide_eq_true (by omega : ((b / 4503599627370496 % 2048 : Nat) : Int) > 0), cond_true, and_tr (fits_ok (by omega) (by omega)), e1]
    exact fin _ (by omega) (by omega) (by omega)
theorem law_Of {N : Nat} (hN : 1000 <= N) {x : Fl} (hx : finF x = true) (hw : FW x) (k : Int -> Bool -> List Int -> Bool) : s_q108 N x k = exK (ofE x) k := by
  obtain ⟨b, s, m, i, rfl, h⟩ := finF_num hx
  have hb := hw b rfl
  unfold s_q108 G_q108
  rw [law_Parts hN hb h, ofE_num h]
  by_cases h0 : m = 0
  · rw [if_pos h0, if_pos h0]
    have : ∀ κ, s_q59 N 0 false κ = κ false (digs 0) := fun κ => law_SetUint64 (N := N) 0 (by decide) false (short_small hN (by decide)) (by omega) κ
    rw [this]
    cases s
    · rw [cond_false]; unfold exK; rfl
    · rw [cond_true, law_Neg_r _ _ (short_small hN (by decide))]; unfold exK intK; rfl
  · rw [if_neg h0, if_neg h0]
    have hpl := place_le h
    obtain ⟨g1, g2, g3, g4⟩ := odd2_facts 64 m i h0 (by have : (2 : Nat) ^ 64 = 18446744073709551616 := by decide
                                                        omega)
    have hs := short_small (N := N) (n := (odd2 64 m i).1) hN (by omega)
    rw [law_SetUint64 (N := N) _ (by omega) false hs (by omega)]
    cases s
    · rw [cond_false]
      show _ = k (odd2 64 m i).2 (decide ((((odd2 64 m i).1 : Nat) : Int) < 0)) (digs (((odd2 64 m i).1 : Nat) : Int).natAbs)
      rw [decide_eq_false (by omega), Int.natAbs_natCast]
    · rw [cond_true, law_Neg_r _ _ hs]; rfl

def EV (x : Int × Int) (v : Int) (E : Nat) : Prop := 0 <= x.1 + E /\ x.2 * 2 ^ (x.1 + E).toNat = v
theorem EV.up {x : Int × Int} {v : Int} {E : Nat} (h : EV x v E) (F : Nat) : EV x (v * 2 ^ F) (E + F) := by
  obtain ⟨h1, h2⟩ := h
  refine ⟨by omega, ?_⟩
  have : (x.1 + ((E + F : Nat) : Int)).toNat = (x.1 + E).toNat + F := by omega
  rw [this, Int.pow_add, <- Int.mul_assoc, h2]
theorem EV.mul {x y : Int × Int} {v w : Int} {E F : Nat} (h : EV x v E) (g : EV y w F) : EV (exMul x y) (v * w) (E + F) := by
  obtain ⟨h1, h2⟩ := h
  obtain ⟨g1, g2⟩ := g
  refine ⟨by simp only [exMul]; omega, ?_⟩
  have : ((exMul x y).1 + ((E + F : Nat) : Int)).toNat = (x.1 + E).toNat + (y.1 + F).toNat := by simp only [exMul]; omega
  rw [this, Int.pow_add, <- h2, <- g2]
  simp only [exMul]
  ac_rfl
theorem EV.neg {x : Int × Int} {v : Int} {E : Nat} (h : EV x v E) : EV (exNeg x) (-v) E := ⟨h.1, by rw [<- h.2]; exact Int.neg_mul _ _⟩
theorem exLow_val {x : Int × Int} {v : Int} {E : Nat} (h : EV x v E) {e : Int} (he : e <= x.1) (hE : 0 <= e + E) : exLow x e * 2 ^ (e + E).toNat = v := by
  unfold exLow
  rw [Int.mul_assoc, <- Int.pow_add, show (x.1 - e).toNat + (e + E).toNat = (x.1 + E).toNat by omega]
  exact h.2
theorem EV.add {x y : Int × Int} {v w : Int} {E : Nat} (h : EV x v E) (g : EV y w E) : EV (exAdd x y) (v + w) E := by
  unfold exAdd
  split
  · rename_i h0
    have : v = 0 := by rw [<- h.2, h0, Int.zero_mul]
    rw [this, Int.zero_add]; exact g
  · split
    · rename_i h0
      have : w = 0 := by rw [<- g.2, h0, Int.zero_mul]
      rw [this, Int.add_zero]; exact h
    · have hE : 0 <= min x.1 y.1 + E := by have := h.1; have := g.1; omega
      exact ⟨hE, by rw [Int.add_mul, exLow_val h (by omega) hE, exLow_val g (by omega) hE]⟩
theorem EV.sgn {x : Int × Int} {v : Int} {E : Nat} (h : EV x v E) : sgnI x.2 = sgnI v := by
  rw [<- h.2]
  have hp := pow2_pos (x.1 + E).toNat
  unfold sgnI
  rcases Int.lt_trichotomy x.2 0 with h | h | h
  · have := Int.mul_neg_of_neg_of_pos h hp
    rw [if_neg (by omega), if_pos h, if_neg (by omega), if_pos this]
  · rw [h, Int.zero_mul]
  · have := Int.mul_pos h hp
    rw [if_neg (by omega), if_neg (by omega), if_neg (by omega), if_neg (by omega)]
theorem EV_zero (E : Nat) : EV (0, 0) 0 E := ⟨by simp only []; omega, Int.zero_mul _⟩

theorem Ex.mono {E B E' B' : Nat} {x : Int × Int} (h : Ex E B x) (hE : E <= E') (hB : B <= B') : Ex E' B' x := ⟨by have := h.1; omega, by have := h.2.1; omega, bits_mono h.2.2 hB⟩
theorem Ex.mul {E B E' B' : Nat} {x y : Int × Int} (h : Ex E B x) (g : Ex E' B' y) : Ex (E + E') (B + B') (exMul x y) :=
  ⟨by have := h.1; have := g.1; simp only [exMul]; omega, by have := h.2.1; have := g.2.1; simp only [exMul]; omega, by
    show Bits _ (x.2 * y.2).natAbs
    rw [Int.natAbs_mul]; exact bits_mul h.2.2 g.2.2⟩
theorem Ex.neg {E B : Nat} {x : Int × Int} (h : Ex E B x) : Ex E B (exNeg x) := ⟨h.1, h.2.1, by show Bits _ (-x.2).natAbs; rw [Int.natAbs_neg]; exact h.2.2⟩
theorem low_bits {E B : Nat} {x : Int × Int} (h : Ex E B x) {e : Int} (he : -(E : Int) <= e) : Bits (B + 2 * E) (exLow x e).natAbs := by
  unfold exLow
  rw [Int.natAbs_mul, Int.natAbs_pow]
  refine bits_mono (bits_shift h.2.2 _) ?_
  have := h.2.1; omega
theorem Ex.add {E B : Nat} {x y : Int × Int} (h : Ex E B x) (g : Ex E B y) : Ex E (B + 2 * E + 1) (exAdd x y) := by
  unfold exAdd
  split
  · exact g.mono (Nat.le_refl _) (by omega)
  · split
    · exact h.mono (Nat.le_refl _) (by omega)
    · refine ⟨by have := h.1; have := g.1; show -(E : Int) <= min x.1 y.1; omega, by have := h.2.1; show min x.1 y.1 <= E; omega, ?_⟩
      have h1 := low_bits h (e := min x.1 y.1) (by have := h.1; have := g.1; omega)
      have h2 := low_bits g (e := min x.1 y.1) (by have := h.1; have := g.1; omega)
      exact bits_le (bits_add h1 h2) (Int.natAbs_add_le _ _)

theorem intK_mk (z : Int) (k : Bool -> List Int -> Bool) : intK z k = k (decide (z < 0)) (digs z.natAbs) := rfl
theorem law_ExMul {N : Nat} (hN : 1000 <= N) {E B : Nat} {x y : Int × Int} (hx : Ex E B x) (hy : Ex E B y) (hE : E <= 100000) (hB : B <= 15000) (k : Int -> Bool -> List Int -> Bool) :
    s_q5 N x.1 y.1 (decide (x.2 < 0)) (digs x.2.natAbs) (decide (y.2 < 0)) (digs y.2.natAbs) k = exK (exMul x y) k := by
  have h1 := bits_len hx.2.2
  have h2 := bits_len hy.2.2
  unfold s_q5 G_q5
  rw [law_IntMul _ _ _ _ _ (by omega) (by omega), ival_nat, ival_nat, intK_mk, and_tr (fits_ok (by have := hx.1; have := hy.1; omega) (by have := hx.2.1; have := hy.2.1; omega))]
  rfl
theorem law_Low {N : Nat} (hN : 1000 <= N) {E B : Nat} {x : Int × Int} (hx : Ex E B x) {e : Int} (he : -(E : Int) <= e) (hB : B + 2 * E <= 30000) (k0 : Bool) (k1 : Bool -> List Int -> Bool) (h0 : x.1 <= e -> k0 = intK x.2 k1) (he2 : x.1 <= e -> e = x.1) :
    s_q20 N x.1 e (decide (x.2 < 0)) (digs x.2.natAbs) k0 k1 = intK (exLow x e) k1 := by
  unfold s_q20 G_q20
  have hx1 := hx.1
  have hx2 := hx.2.1
  by_cases hc : x.1 <= e
  · rw [decide_eq_true (by omega : e >= x.1), cond_true, h0 hc]
    have : exLow x e = x.2 := by
      unfold exLow
      rw [he2 hc, Int.sub_self]; simp
    rw [this]
  · rw [decide_eq_false (by omega : ¬ e >= x.1), cond_false, and_tr (fits_ok (by omega) (by omega))]
    have ew : IntKind.wrap .u64 (x.1 - e) = (((x.1 - e).toNat : Nat) : Int) := by rw [wrap64]; omega
    rw [ew, law_Lsh_n _ _ _ _ (bits_shOk hN (by omega) hx.2.2)]
    congr 1
    unfold exLow ival
    by_cases hz : x.2 < 0
    · rw [decide_eq_true hz, if_pos rfl, Int.natCast_mul, Int.natCast_pow, <- Int.neg_mul]
      congr 1; omega
    · rw [decide_eq_false hz, if_neg (by decide), Int.natCast_mul, Int.natCast_pow]
      congr 1; omega
theorem law_ExAdd {N : Nat} (hN : 1000 <= N) {E B : Nat} {x y : Int × Int} (hx : Ex E B x) (hy : Ex E B y) (hB : B + 2 * E <= 29000) (k0 k1 : Bool) (k2 : Int -> Bool -> List Int -> Bool) (h0 : k0 = exK y k2) (h1 : k1 = exK x k2) :
    s_q8 N x.1 y.1 (decide (x.2 < 0)) (digs x.2.natAbs) (decide (y.2 < 0)) (digs y.2.natAbs) k0 k1 k2 = exK (exAdd x y) k2 := by
  unfold s_q8 G_q8 exAdd
  have z0 : ∀ (z : Int) (g : Bool), ((if z.natAbs = 0 then (0 : Int) else if g = true then -1 else 1) == 0) = decide (z = 0) := by
    intro z g
    by_cases h : z = 0
    · rw [if_pos (by omega), decide_eq_true h]; rfl
    · rw [if_neg (by omega), decide_eq_false h]; cases g <;> rfl
  rw [law_Sign_r, z0, law_Sign_r, z0]
  by_cases c0 : x.2 = 0
  · rw [decide_eq_true c0, cond_true, if_pos c0, h0]
  · rw [decide_eq_false c0, cond_false, if_neg c0]
    by_cases c1 : y.2 = 0
    · rw [decide_eq_true c1, cond_true, if_pos c1, h1]
    · rw [decide_eq_false c1, cond_false, if_neg c1, imm_min]
      have hxe := hx.1
      have hye := hy.1
      have lx := low_bits hx (e := min x.1 y.1) (by omega)
      have ly := low_bits hy (e := min x.1 y.1) (by omega)
      have hadd : ∀ (a b : Int), Bits (B + 2 * E) a.natAbs -> Bits (B + 2 * E) b.natAbs -> s_q36 N false (decide (a < 0)) (digs a.natAbs) (decide (b < 0)) (digs b.natAbs) (fun cr nsr => k2 (min x.1 y.1) cr nsr) = exK (min x.1 y.1, a + b) k2 := by
        intro a b ha hb
        rw [law_IntAdd _ _ _ _ _ (bits_short hN (by omega) ha) (bits_short hN (by omega) hb) (bits_short hN (by omega) (bits_add ha hb)), ival_nat, ival_nat]
        rfl
      have hyl : ∀ (a : Int), Bits (B + 2 * E) a.natAbs -> s_q20 N y.1 (min x.1 y.1) (decide (y.2 < 0)) (digs y.2.natAbs) (s_q36 N false (decide (a < 0)) (digs a.natAbs) (decide (y.2 < 0)) (digs y.2.natAbs) (fun cr nsr => k2 (min x.1 y.1) cr nsr)) (fun g d => s_q36 N false (decide (a < 0)) (digs a.natAbs) g d (fun cr nsr => k2 (min x.1 y.1) cr nsr)) = exK (min x.1 y.1, a + exLow y (min x.1 y.1)) k2 := by
        intro a ha
        rw [law_Low hN hy (by omega) (by omega) _ _ (fun _ => by rw [intK_mk]) (by omega), intK_mk, hadd _ _ ha ly]
      rw [law_Low hN hx (by omega) (by omega) _ _ (fun h => by
        rw [intK_mk]) (by omega), intK_mk, hyl _ lx]
theorem law_ExCmp {N : Nat} (hN : 1000 <= N) {E B : Nat} {x y : Int × Int} (hx : Ex E B x) (hy : Ex E B y) (hB : B + 2 * E <= 28000) (k : Int -> Bool) :
    s_q24 N x.1 y.1 (decide (x.2 < 0)) (digs x.2.natAbs) (decide (y.2 < 0)) (digs y.2.natAbs) k = k (sgnI (exAdd x (exNeg y)).2) := by
  unfold s_q24 G_q24 s_q49 G_q49
  rw [law_Neg_n _ _ _ (bits_short hN (by omega) hy.2.2), ival_nat, intK_mk]
  have sg : ∀ (z : Int), s_q53 N (decide (z < 0)) (digs z.natAbs) (fun nr => k nr) = k (sgnI z) := by
    intro z
    rw [law_Sign_r]
    unfold sgnI
    congr 1
    by_cases h : z = 0
    · rw [if_pos (by omega), if_pos h]
    · rw [if_neg (by omega), if_neg h]
      by_cases hl : z < 0
      · rw [if_pos (decide_eq_true hl), if_pos hl]
      · rw [if_neg (by rw [decide_eq_false hl]; decide), if_neg hl]
  have := law_ExAdd (N := N) hN hx (Ex.neg hy) (by omega) (s_q53 N (decide (-y.2 < 0)) (digs (-y.2).natAbs) (fun nr => k nr)) (s_q53 N (decide (x.2 < 0)) (digs x.2.natAbs) (fun nr => k nr)) (fun _ g d => s_q53 N g d (fun nr => k nr)) rfl rfl
  refine Eq.trans this ?_
  unfold exK
  exact sg _

def dotE (a b : List Fl) : Nat -> Int × Int
  | 0 => (0, 0)
  | n + 1 => exAdd (dotE a b n) (exMul (ofE (a.getD n none)) (ofE (b.getD n none)))
theorem ofE_Ex {x : Fl} (hx : finF x = true) : Ex 1100 53 (ofE x) := by
  obtain ⟨b, s, m, i, rfl, h⟩ := finF_num hx
  rw [ofE_num h]
  have hpl := place_le h
  have hpg := place_ge h
  by_cases h0 : m = 0
  · rw [if_pos h0]; exact ⟨by decide, by decide, Nat.two_pow_pos _⟩
  · rw [if_neg h0]
    obtain ⟨g1, g2, g3, g4⟩ := odd2_facts 64 m i h0 (by have : (2 : Nat) ^ 64 = 18446744073709551616 := by decide
                                                        omega)
    refine ⟨by show -((1100 : Nat) : Int) <= (odd2 64 m i).2; omega, by show (odd2 64 m i).2 <= ((1100 : Nat) : Int); omega, ?_⟩
    show Bits 53 (ival s (odd2 64 m i).1).natAbs
    have : (ival s (odd2 64 m i).1).natAbs = (odd2 64 m i).1 := by unfold ival; cases s <;> simp
    rw [this]
    show _ < 2 ^ 53
    have : (2 : Nat) ^ 53 = 9007199254740992 := by decide
    omega
theorem ofE_EV {b : Nat} {s : Bool} {m : Nat} {i : Int} (h : Ieee.double.read b = .number s m i) {E : Nat} (hE : 1074 <= E) : EV (ofE (some b)) (signed s m (i + E).toNat) E := by
  rw [ofE_num h]
  have hpg := place_ge h
  by_cases h0 : m = 0
  · rw [if_pos h0]; subst h0; rw [signed_zero]; exact EV_zero E
  · rw [if_neg h0]
    have hpl := place_le h
    obtain ⟨g1, g2, g3, g4⟩ := odd2_facts 64 m i h0 (by have : (2 : Nat) ^ 64 = 18446744073709551616 := by decide
                                                        omega)
    refine ⟨by show 0 <= (odd2 64 m i).2 + (E : Int); omega, ?_⟩
    show ival s (odd2 64 m i).1 * 2 ^ ((odd2 64 m i).2 + E).toNat = _
    generalize odd2 64 m i = q at *
    have e1 : (q.2 + E).toNat = (q.2 - i).toNat + (i + E).toNat := by omega
    unfold ival signed
    rw [Nat.shiftLeft_eq, e1, Int.pow_add, <- g3]
    cases s
    · simp only [Bool.false_eq_true, if_false]
      rw [Int.natCast_mul, Int.natCast_mul, Int.natCast_pow, Int.natCast_pow]; rw [show ((2 : Nat) : Int) = 2 from rfl]; ac_rfl
    · simp only [if_true]
      rw [Int.natCast_mul, Int.natCast_mul, Int.natCast_pow, Int.natCast_pow]; rw [show ((2 : Nat) : Int) = 2 from rfl]
      rw [Int.neg_mul]; congr 1; ac_rfl
end Go.Proofs.YtccocdgimamdhaaGreatDoor
end
section
namespace Go.Proofs.YtccocdgimamdhaaGreatDoor
open Go Go.Mach Ieee
set_option linter.unusedVariables false

@[irreducible] def Sc : Nat := 1074
theorem Sc_ge : 1074 <= Sc := by unfold Sc; exact Nat.le_refl _
theorem Sc_le : Sc <= 1074 := by unfold Sc; exact Nat.le_refl _
@[irreducible] def e2 : Nat := 4196
theorem e2_eq : e2 = 2098 + 2098 := by unfold e2; rfl
theorem big2_lt {x : Nat} (h : Bits (2098 + 2098) x) : x < 2 ^ e2 := by
  have h' : Bits e2 x := by rw [e2_eq]; exact h
  exact h'
theorem big2_12 {n x : Nat} (hn : n <= 12) (h : x <= n * 2 ^ e2) : Bits 4200 x := by
  have h3 : n * 2 ^ e2 < 2 ^ 4 * 2 ^ e2 := Nat.mul_lt_mul_of_pos_right (Nat.lt_of_le_of_lt hn (Nat.le_of_ble_eq_true rfl)) (Nat.two_pow_pos e2)
  rw [<- Nat.pow_add] at h3
  have h4 : Bits (4 + e2) x := Nat.lt_of_le_of_lt h h3
  exact bits_mono h4 (by rw [e2_eq]; omega)
def valE (x : Fl) : Int := (ofE x).2 * 2 ^ ((ofE x).1 + Sc).toNat
theorem valE_EV {x : Fl} (hx : finF x = true) : EV (ofE x) (valE x) Sc := by
  obtain ⟨b, s, m, i, rfl, h⟩ := finF_num hx
  exact ⟨(ofE_EV h Sc_ge).1, rfl⟩
theorem valE_num {b : Nat} {s : Bool} {m : Nat} {i : Int} (h : Ieee.double.read b = .number s m i) : valE (some b) = signed s m (i + Sc).toNat := (ofE_EV h Sc_ge).2
theorem valE_lt {x : Fl} (hx : finF x = true) : Bits 2098 (valE x).natAbs := by
  obtain ⟨b, s, m, i, rfl, h⟩ := finF_num hx
  rw [valE_num h, signed_abs]
  have hpl := place_le h
  have hm : Bits 53 m := by
    show _ < 2 ^ 53
    have : (2 : Nat) ^ 53 = 9007199254740992 := by decide
    omega
  refine bits_mono (bits_shift hm _) ?_
  have := Sc_le; omega
theorem EV.bits {x : Int × Int} {v : Int} {E B : Nat} (h : EV x v E) (g : Bits B v.natAbs) : Bits B x.2.natAbs := by
  refine bits_le g ?_
  rw [<- h.2, abs_mul_pow]
  exact Nat.le_mul_of_pos_right _ (Nat.two_pow_pos _)
def dotVal (a b : List Fl) : Nat -> Int
  | 0 => 0
  | n + 1 => dotVal a b n + valE (a.getD n none) * valE (b.getD n none)
def FinL (a : List Fl) (n : Nat) : Prop := ∀ i, i < n -> finF (a.getD i none) = true /\ FW (a.getD i none)
theorem dotE_EV {a b : List Fl} : ∀ n, FinL a n -> FinL b n -> EV (dotE a b n) (dotVal a b n) (Sc + Sc)
  | 0, _, _ => EV_zero _
  | n + 1, ha, hb => (dotE_EV n (fun i hi => ha i (by omega)) (fun i hi => hb i (by omega))).add ((valE_EV (ha n (by omega)).1).mul (valE_EV (hb n (by omega)).1))
theorem dotVal_le {a b : List Fl} : ∀ n, FinL a n -> FinL b n -> (dotVal a b n).natAbs <= n * 2 ^ e2
  | 0, _, _ => by show (0 : Int).natAbs <= _; simp
  | n + 1, ha, hb => by
    have h1 := dotVal_le n (fun i hi => ha i (by omega)) (fun i hi => hb i (by omega))
    have h2 := bits_mul (valE_lt (ha n (by omega)).1) (valE_lt (hb n (by omega)).1)
    show (dotVal a b n + valE (a.getD n none) * valE (b.getD n none)).natAbs <= _
    have h3 := Int.natAbs_add_le (dotVal a b n) (valE (a.getD n none) * valE (b.getD n none))
    rw [Int.natAbs_mul] at h3
    have h4 := big2_lt h2
    rw [Nat.succ_mul]; omega
theorem exAdd_exp {x y : Int × Int} {E : Nat} (h1 : -(E : Int) <= x.1) (h2 : x.1 <= E) (g1 : -(E : Int) <= y.1) (g2 : y.1 <= E) : -(E : Int) <= (exAdd x y).1 /\ (exAdd x y).1 <= E := by
  unfold exAdd
  split
  · exact ⟨g1, g2⟩
  · split
    · exact ⟨h1, h2⟩
    · show -(E : Int) <= min x.1 y.1 /\ min x.1 y.1 <= E
      omega
theorem dotE_exp {a b : List Fl} : ∀ n, FinL a n -> FinL b n -> -((2200 : Nat) : Int) <= (dotE a b n).1 /\ (dotE a b n).1 <= ((2200 : Nat) : Int)
  | 0, _, _ => by show -((2200 : Nat) : Int) <= 0 /\ (0 : Int) <= ((2200 : Nat) : Int); omega
  | n + 1, ha, hb => by
    have h1 := dotE_exp n (fun i hi => ha i (by omega)) (fun i hi => hb i (by omega))
    have h2 := ofE_Ex (ha n (by omega)).1
    have h3 := ofE_Ex (hb n (by omega)).1
    have a1 := h2.1; have a2 := h2.2.1; have b1 := h3.1; have b2 := h3.2.1
    exact exAdd_exp h1.1 h1.2 (by show -((2200 : Nat) : Int) <= (ofE (a.getD n none)).1 + (ofE (b.getD n none)).1; omega) (by show (ofE (a.getD n none)).1 + (ofE (b.getD n none)).1 <= ((2200 : Nat) : Int); omega)
theorem dotE_Ex {a b : List Fl} {n : Nat} (hn : n <= 12) (ha : FinL a n) (hb : FinL b n) : Ex 2200 4200 (dotE a b n) := by
  have h1 := dotE_exp n ha hb
  refine ⟨h1.1, h1.2, (dotE_EV n ha hb).bits ?_⟩
  exact big2_12 hn (dotVal_le n ha hb)
theorem FinL.mono {a : List Fl} {n m : Nat} (h : FinL a n) (hm : m <= n) : FinL a m := fun i hi => h i (by omega)
theorem law_DotE {N : Nat} (hN : 1000 <= N) {a b : List Fl} (hl : a.length = b.length) (hn : a.length <= 12) (ha : FinL a a.length) (hb : FinL b a.length) (k : Int -> Bool -> List Int -> Bool) :
    s_q129 N a b k = exK (dotE a b a.length) k := by
  unfold s_q129 G_q129 s_q95 G_q95
  refine iterG_eq0 (fun i => ((i : Int), (dotE a b i).1, decide ((dotE a b i).2 < 0), digs (dotE a b i).2.natAbs)) a.length ?_ (by omega) (fun i hi K => ?_) (fun K => ?_)
  · show ((0 : Int), (0 : Int), false, ([] : List Int)) = (((0 : Nat) : Int), (0 : Int), decide ((0 : Int) < 0), digs (0 : Int).natAbs)
    rw [show (0 : Int).natAbs = 0 from rfl, digs_zero]; rfl
  · simp only [st_z03_Dot_0, Int.toNat_natCast]
    have f1 := ha i hi
    have f2 := hb i hi
    have d1 := dotE_Ex (a := a) (b := b) (n := i) (by omega) (ha.mono (by omega)) (hb.mono (by omega))
    have e1 := ofE_Ex f1.1
    have e2 := ofE_Ex f2.1
    have em := (e1.mul e2).mono (E' := 2200) (B' := 4200) (by omega) (by omega)
    rw [decide_eq_true (by omega : (i : Int) < ((a.length : Nat) : Int)), cond_true, and_tr (inR_of (by omega) (by omega)), law_Of hN f1.1 f1.2]
    unfold exK
    dsimp only
    rw [and_tr (inR_of (by omega) (by omega)), law_Of hN f2.1 f2.2]
    unfold exK
    dsimp only
    rw [law_ExMul hN e1 e2 (by omega) (by omega)]
    unfold exK
    dsimp only
    rw [law_ExAdd hN d1 em (by omega) _ _ (fun nr cr nsr => (fits .i64 ((i : Int) + 1)) && K ((i : Int) + 1, nr, cr, nsr)) (by rfl) (by rfl)]
    unfold exK
    dsimp only
    rw [and_tr (fits_ok (by omega) (by omega))]
    rfl
  · simp only [st_z03_Dot_0]
    rw [decide_eq_false (by omega), cond_false]
    rfl
theorem law_sum4 {N : Nat} (hN : 1000 <= N) {p q r s : Fl} (h : FinL [p, q, r, s] 4) (k : Int -> Bool -> List Int -> Bool) : s_q42 N p q r s k = exK (dotE [p, q, r, s] [p, q, r, s] 4) k := by
  unfold s_q42 G_q42 s_q123 G_q123
  exact law_DotE hN rfl (Nat.le_of_ble_eq_true rfl) h h k

theorem wh_val {x : Fl} {n : Int} (h : Wh x n) : valE x = n * 2 ^ Sc := by
  obtain ⟨b, s, m, i, E, rfl, hb, hr, hi, hv⟩ := h
  have hg := place_ge hr
  have := Sc_ge
  rw [valE_num hr]
  refine mul_pow_inj (E := E) ?_
  rw [<- signed_add, show (i + Sc).toNat + E = (i + E).toNat + Sc by omega, signed_add, hv]
  exact Int.mul_right_comm _ _ _
theorem wh_EV {x : Fl} {n : Int} (h : Wh x n) : EV (ofE x) (n * 2 ^ Sc) Sc := by
  rw [<- wh_val h]; exact valE_EV (wh_fin h)
theorem wh_feq {x y : Fl} {n : Int} (h : Wh x n) (g : Wh y n) : feq x y = true := by
  obtain ⟨c, s, m, i, E, rfl, wc, rc, hi, hv⟩ := h
  obtain ⟨d, t, k, j, F, rfl, wd, rd, hj, hw⟩ := g
  show ((Ieee.double.read c).order (Ieee.double.read d) == some .eq) = true
  rw [rc, rd]
  simp only [Datum.order]
  have : signed s m (i - min i j).toNat = signed t k (j - min i j).toNat := by
    refine mul_pow_inj (E := (min i j + ((E + F : Nat) : Int)).toNat) ?_
    rw [<- signed_add, <- signed_add]
    have e1 : (i - min i j).toNat + (min i j + ((E + F : Nat) : Int)).toNat = (i + E).toNat + F := by omega
    have e2 : (j - min i j).toNat + (min i j + ((E + F : Nat) : Int)).toNat = (j + F).toNat + E := by omega
    rw [e1, e2, signed_add, signed_add, hv, hw]
    ac_rfl
  rw [this, Int.compare_eq_eq.2 rfl]; rfl
theorem wh_zero : Wh (some 0) 0 := by
  have := wh_word0 false
  rwa [word0] at this
end Go.Proofs.YtccocdgimamdhaaGreatDoor
end
section
namespace Go.Proofs.YtccocdgimamdhaaGreatDoor
open Go Go.Mach Ieee
set_option linter.unusedVariables false
set_option maxRecDepth 4000

theorem small_of {N : Nat} (hN : 1000 <= N) {n : Nat} (h : n <= 48) : Small N n := ⟨by omega, by omega⟩
theorem law_q40 {N : Nat} (xs : List Fl) (hl : Small N xs.length) (k : Bool -> Bool) : s_q40 N xs k = k (allFin xs) := by
  unfold s_q40 G_q40
  rw [<- cond_k (allFin xs) k]
  refine (iterG_all (fun i => (i : Int)) (fun i => finF (xs.getD i none)) xs.length hl.1 (fun i hi K => ?_) (fun K => ?_) : _)
  · have h2 := hl.2
    simp only [st_quat_finite_0, Int.toNat_natCast, fin_eq]
    rw [dec_true (by omega), cond_true, and_true_of (inR_of (by omega) (by omega)), and_true_of (inR_of (by omega) (by omega)), and_true_of (fits_ok (by omega) (by omega))]
    cases finF (xs.getD i none) <;> rfl
  · simp only [st_quat_finite_0]
    rw [dec_false (by omega), cond_false]
theorem law_good {N : Nat} (hN : 1000 <= N) (a b c d : Fl) (k : Bool -> Bool) : s_q7 N a b c d k = k (allFin [a, b, c, d]) := by
  unfold s_q7 G_q7
  rw [law_q40 _ (small_of hN (Nat.le_of_ble_eq_true rfl))]
  cases allFin [a, b, c, d] <;> rfl
theorem law_told {N : Nat} (hN : 1000 <= N) (a b c d : Fl) (k : Fl -> Fl -> Fl -> Fl -> Int -> Bool) : s_q112 N a b c d k = cond (!allFin [a, b, c, d]) (k (some 0) (some 0) (some 0) (some 0) 5) (k a b c d 0) := by
  unfold s_q112 G_q112
  rw [law_good hN]
theorem law_good2 {N : Nat} (hN : 1000 <= N) (a b c d p q r s : Fl) (k : Bool -> Bool) : s_q76 N a b c d p q r s k = k (allFin [a, b, c, d] && allFin [p, q, r, s]) := by
  unfold s_q76 G_q76
  rw [law_q40 _ (small_of hN (Nat.le_of_ble_eq_true rfl))]
  cases allFin [a, b, c, d]
  · rfl
  · rw [Bool.not_true, cond_false, law_q40 _ (small_of hN (Nat.le_of_ble_eq_true rfl))]
    cases allFin [p, q, r, s] <;> rfl
theorem allFin4 {a b c d : Fl} (h0 : finF a = true) (h1 : finF b = true) (h2 : finF c = true) (h3 : finF d = true) : allFin [a, b, c, d] = true := by
  refine allN_iff.2 fun i hi => ?_
  have hi : i < 4 := hi
  match i, hi with
  | 0, _ => exact h0
  | 1, _ => exact h1
  | 2, _ => exact h2
  | 3, _ => exact h3
def Wq (a b c d : Fl) (p q r s : Int) : Prop := Wh a p /\ Wh b q /\ Wh c r /\ Wh d s
theorem Wq.fin {a b c d : Fl} {p q r s : Int} (h : Wq a b c d p q r s) : allFin [a, b, c, d] = true := allFin4 (wh_fin h.1) (wh_fin h.2.1) (wh_fin h.2.2.1) (wh_fin h.2.2.2)
theorem Wq.finL {a b c d : Fl} {p q r s : Int} (h : Wq a b c d p q r s) : FinL [a, b, c, d] 4 := by
  intro i hi
  match i, hi with
  | 0, _ => exact ⟨wh_fin h.1, wh_FW h.1⟩
  | 1, _ => exact ⟨wh_fin h.2.1, wh_FW h.2.1⟩
  | 2, _ => exact ⟨wh_fin h.2.2.1, wh_FW h.2.2.1⟩
  | 3, _ => exact ⟨wh_fin h.2.2.2, wh_FW h.2.2.2⟩
def Lq (p q r s : Int) (X : Nat) : Prop := p.natAbs <= X /\ q.natAbs <= X /\ r.natAbs <= X /\ s.natAbs <= X
theorem abs_le {a b : Int} {X Y : Nat} (ha : a.natAbs <= X) (hb : b.natAbs <= Y) : (a * b).natAbs <= X * Y := by
  rw [Int.natAbs_mul]; exact Nat.mul_le_mul ha hb
def hW (a b c d p q r s : Int) : Int := a * p - b * q - c * r - d * s
def hX (a b c d p q r s : Int) : Int := a * q + b * p + c * s - d * r
def hY (a b c d p q r s : Int) : Int := a * r - b * s + c * p + d * q
def hZ (a b c d p q r s : Int) : Int := a * s + b * r - c * q + d * p
theorem le_sub {x y : Int} {M P : Nat} (hx : x.natAbs <= M) (hy : y.natAbs <= P) : (x - y).natAbs <= M + P := by omega
theorem le_add {x y : Int} {M P : Nat} (hx : x.natAbs <= M) (hy : y.natAbs <= P) : (x + y).natAbs <= M + P := by omega
theorem four_mul {M : Nat} {n : Nat} (h : n <= M + M + M + M) : n <= 4 * M := by omega
theorem hq_le {a b c d p q r s : Int} {X Y : Nat} (ha : Lq a b c d X) (hb : Lq p q r s Y) : Lq (hW a b c d p q r s) (hX a b c d p q r s) (hY a b c d p q r s) (hZ a b c d p q r s) (4 * (X * Y)) := by
  obtain ⟨a0, a1, a2, a3⟩ := ha
  obtain ⟨b0, b1, b2, b3⟩ := hb
  exact ⟨four_mul (le_sub (le_sub (le_sub (abs_le a0 b0) (abs_le a1 b1)) (abs_le a2 b2)) (abs_le a3 b3)),
    four_mul (le_sub (le_add (le_add (abs_le a0 b1) (abs_le a1 b0)) (abs_le a2 b3)) (abs_le a3 b2)),
    four_mul (le_add (le_add (le_sub (abs_le a0 b2) (abs_le a1 b3)) (abs_le a2 b0)) (abs_le a3 b1)),
    four_mul (le_add (le_sub (le_add (abs_le a0 b3) (abs_le a1 b2)) (abs_le a2 b1)) (abs_le a3 b0))⟩
def Wb (x : Fl) (n : Int) (M : Nat) : Prop := Wh x n /\ n.natAbs <= M
theorem wb_mul {x y : Fl} {a b : Int} {X Y : Nat} (hx : Wh x a) (hy : Wh y b) (ha : a.natAbs <= X) (hb : b.natAbs <= Y) (h : 4 * (X * Y) < 9007199254740992) : Wb (fmul x y) (a * b) (X * Y) :=
  ⟨wh_mul hx hy (by have := abs_le ha hb; omega), abs_le ha hb⟩
theorem wb_add {x y : Fl} {a b : Int} {M P : Nat} (hx : Wb x a M) (hy : Wb y b P) (h : M + P < 9007199254740992) : Wb (fadd x y) (a + b) (M + P) :=
  ⟨wh_add hx.1 hy.1 (by have := le_add hx.2 hy.2; omega), le_add hx.2 hy.2⟩
theorem wb_sub {x y : Fl} {a b : Int} {M P : Nat} (hx : Wb x a M) (hy : Wb y b P) (h : M + P < 9007199254740992) : Wb (fsub x y) (a - b) (M + P) :=
  ⟨wh_sub hx.1 hy.1 (by have := le_sub hx.2 hy.2; omega), le_sub hx.2 hy.2⟩
theorem wh_qmul {N : Nat} (hN : 1000 <= N) {x0 x1 x2 x3 y0 y1 y2 y3 : Fl} {a b c d p q r s : Int} {X Y : Nat} (hx : Wq x0 x1 x2 x3 a b c d) (hy : Wq y0 y1 y2 y3 p q r s) (ha : Lq a b c d X) (hb : Lq p q r s Y) (hM : 4 * (X * Y) < 9007199254740992) :
    ∃ z0 z1 z2 z3, Wq z0 z1 z2 z3 (hW a b c d p q r s) (hX a b c d p q r s) (hY a b c d p q r s) (hZ a b c d p q r s) /\ ∀ κ, s_q88 N x0 x1 x2 x3 y0 y1 y2 y3 κ = κ z0 z1 z2 z3 0 := by
  have fx := hx.fin
  have fy := hy.fin
  obtain ⟨a0, a1, a2, a3⟩ := ha
  obtain ⟨b0, b1, b2, b3⟩ := hb
  obtain ⟨u0, u1, u2, u3⟩ := hx
  obtain ⟨v0, v1, v2, v3⟩ := hy
  have m1 : X * Y + X * Y < 9007199254740992 := by omega
  have m2 : X * Y + X * Y + X * Y < 9007199254740992 := by omega
  have m3 : X * Y + X * Y + X * Y + X * Y < 9007199254740992 := by omega
  have w0 := wb_sub (wb_sub (wb_sub (wb_mul u0 v0 a0 b0 hM) (wb_mul u1 v1 a1 b1 hM) m1) (wb_mul u2 v2 a2 b2 hM) m2) (wb_mul u3 v3 a3 b3 hM) m3
  have w1 := wb_sub (wb_add (wb_add (wb_mul u0 v1 a0 b1 hM) (wb_mul u1 v0 a1 b0 hM) m1) (wb_mul u2 v3 a2 b3 hM) m2) (wb_mul u3 v2 a3 b2 hM) m3
  have w2 := wb_add (wb_add (wb_sub (wb_mul u0 v2 a0 b2 hM) (wb_mul u1 v3 a1 b3 hM) m1) (wb_mul u2 v0 a2 b0 hM) m2) (wb_mul u3 v1 a3 b1 hM) m3
  have w3 := wb_add (wb_sub (wb_add (wb_mul u0 v3 a0 b3 hM) (wb_mul u1 v2 a1 b2 hM) m1) (wb_mul u2 v1 a2 b1 hM) m2) (wb_mul u3 v0 a3 b0 hM) m3
  have hW : Wq _ _ _ _ (hW a b c d p q r s) (hX a b c d p q r s) (hY a b c d p q r s) (hZ a b c d p q r s) := ⟨w0.1, w1.1, w2.1, w3.1⟩
  refine ⟨_, _, _, _, hW, fun κ => ?_⟩
  unfold s_q88 G_q88
  rw [law_good2 hN, fx, fy, show (!(true && true)) = false from rfl, cond_false]
  unfold s_q125 G_q125
  dsimp only
  rw [law_told hN, hW.fin, Bool.not_true, cond_false]
theorem wq_whole24 {N : Nat} (a b c d : Int) : ∃ x y z w p q r s, Wq x y z w p q r s /\ Lq p q r s 16777215 /\ ∀ κ, s_q37 N a b c d 24 κ = κ x y z w := by
  have ht : ∀ n : Int, (Int.tmod n 16777216).natAbs <= 16777215 := by
    intro n
    have h1 := Int.natAbs_tmod n 16777216
    rw [h1]
    have : n.natAbs % (16777216 : Int).natAbs < (16777216 : Int).natAbs := Nat.mod_lt _ (by decide)
    have e : (16777216 : Int).natAbs = 16777216 := rfl
    omega
  have hw : ∀ n : Int, Wh (some (FloatKind.nearest .f64 (Int.tmod n 16777216))) (Int.tmod n 16777216) := fun n => wh_int (by have := ht n; omega)
  exact ⟨_, _, _, _, _, _, _, _, ⟨hw a, hw b, hw c, hw d⟩, ⟨ht a, ht b, ht c, ht d⟩, fun κ => rfl⟩
theorem wq_whole15 {N : Nat} (a b c d : Int) : ∃ x y z w p q r s, Wq x y z w p q r s /\ Lq p q r s 32767 /\ ∀ κ, s_q37 N a b c d 15 κ = κ x y z w := by
  have ht : ∀ n : Int, (Int.tmod n 32768).natAbs <= 32767 := by
    intro n
    have h1 := Int.natAbs_tmod n 32768
    rw [h1]
    have : n.natAbs % (32768 : Int).natAbs < (32768 : Int).natAbs := Nat.mod_lt _ (by decide)
    have e : (32768 : Int).natAbs = 32768 := rfl
    omega
  have hw : ∀ n : Int, Wh (some (FloatKind.nearest .f64 (Int.tmod n 32768))) (Int.tmod n 32768) := fun n => wh_int (by have := ht n; omega)
  exact ⟨_, _, _, _, _, _, _, _, ⟨hw a, hw b, hw c, hw d⟩, ⟨ht a, ht b, ht c, ht d⟩, fun κ => rfl⟩
theorem sum_EV {x0 x1 x2 x3 : Fl} {a b c d : Int} (h : Wq x0 x1 x2 x3 a b c d) : EV (dotE [x0, x1, x2, x3] [x0, x1, x2, x3] 4) ((a * a + b * b + c * c + d * d) * 2 ^ (Sc + Sc)) (Sc + Sc) := by
  have e := dotE_EV 4 h.finL h.finL
  have ev : dotVal [x0, x1, x2, x3] [x0, x1, x2, x3] 4 = (0 + valE x0 * valE x0 + valE x1 * valE x1 + valE x2 * valE x2 + valE x3 * valE x3) := rfl
  rw [ev, wh_val h.1, wh_val h.2.1, wh_val h.2.2.1, wh_val h.2.2.2] at e
  rw [Int.pow_add]
  generalize (2 : Int) ^ Sc = K at *
  have : (0 + a * K * (a * K) + b * K * (b * K) + c * K * (c * K) + d * K * (d * K)) = (a * a + b * b + c * c + d * d) * (K * K) := by grind
  rw [this] at e
  exact e
theorem sgn_same {x y : Int × Int} {v : Int} {E : Nat} (h : EV x v E) (g : EV y v E) : sgnI (exAdd x (exNeg y)).2 = 0 := by
  rw [(h.add g.neg).sgn, show v + -v = 0 by omega]; rfl
theorem euler (a b c d p q r s : Int) : hW a b c d p q r s * hW a b c d p q r s + hX a b c d p q r s * hX a b c d p q r s + hY a b c d p q r s * hY a b c d p q r s + hZ a b c d p q r s * hZ a b c d p q r s = (a * a + b * b + c * c + d * d) * (p * p + q * q + r * r + s * s) := by
  unfold hW hX hY hZ; grind
theorem law_equal (N : Nat) {x0 x1 x2 x3 y0 y1 y2 y3 : Fl} {a b c d : Int} (h : Wq x0 x1 x2 x3 a b c d) (g : Wq y0 y1 y2 y3 a b c d) (k : Bool -> Bool) : s_q39 N x0 x1 x2 x3 y0 y1 y2 y3 k = k true := by
  unfold s_q39 G_q39
  rw [wh_feq h.1 g.1, show (true == true) = true from rfl, cond_true, wh_feq h.2.1 g.2.1, show (true == true) = true from rfl, cond_true, wh_feq h.2.2.1 g.2.2.1, show (true == true) = true from rfl, cond_true, wh_feq h.2.2.2 g.2.2.2]
theorem law_Conj {N : Nat} (hN : 1000 <= N) {x0 x1 x2 x3 : Fl} (h : allFin [x0, x1, x2, x3] = true) (κ : Fl -> Fl -> Fl -> Fl -> Int -> Bool) : s_q93 N x0 x1 x2 x3 κ = κ x0 (fneg x1) (fneg x2) (fneg x3) 0 := by
  unfold s_q93 G_q93
  rw [law_good hN, h]; rfl
theorem law_QuatEuler {N : Nat} (hN : 1000 <= N) (x0 x1 x2 x3 y0 y1 y2 y3 z0 z1 z2 z3 : Int) (k : Bool -> Bool) : s_q48 N x0 x1 x2 x3 y0 y1 y2 y3 z0 z1 z2 z3 k = k true := by
  obtain ⟨a0, a1, a2, a3, A0, A1, A2, A3, wa, la, ea⟩ := wq_whole24 (N := N) x0 x1 x2 x3
  obtain ⟨b0, b1, b2, b3, B0, B1, B2, B3, wb, lb, eb⟩ := wq_whole24 (N := N) y0 y1 y2 y3
  obtain ⟨p0, p1, p2, p3, wp, ep⟩ := wh_qmul hN wa wb la lb (by decide)
  have wc : Wq a0 (fneg a1) (fneg a2) (fneg a3) A0 (-A1) (-A2) (-A3) := ⟨wa.1, wh_neg wa.2.1, wh_neg wa.2.2.1, wh_neg wa.2.2.2⟩
  have lc : Lq A0 (-A1) (-A2) (-A3) 16777215 := ⟨la.1, by rw [Int.natAbs_neg]; exact la.2.1, by rw [Int.natAbs_neg]; exact la.2.2.1, by rw [Int.natAbs_neg]; exact la.2.2.2⟩
  obtain ⟨q0, q1, q2, q3, wq, eq⟩ := wh_qmul hN wa wc la lc (by decide)
  obtain ⟨f0, f1, f2, f3, F0, F1, F2, F3, wf, lf, ef⟩ := wq_whole15 (N := N) x0 x1 x2 x3
  obtain ⟨g0, g1, g2, g3, G0, G1, G2, G3, wg, lg, eg⟩ := wq_whole15 (N := N) y0 y1 y2 y3
  obtain ⟨h0, h1, h2, h3, H0, H1, H2, H3, wh, lh, eh⟩ := wq_whole15 (N := N) z0 z1 z2 z3
  obtain ⟨r0, r1, r2, r3, wr, er⟩ := wh_qmul hN wf wg lf lg (by decide)
  obtain ⟨s0, s1, s2, s3, ws, es⟩ := wh_qmul hN wr wh (hq_le lf lg) lh (by decide)
  obtain ⟨t0, t1, t2, t3, wt, et⟩ := wh_qmul hN wg wh lg lh (by decide)
  obtain ⟨u0, u1, u2, u3, wu, eu⟩ := wh_qmul hN wf wt lf (hq_le lg lh) (by decide)
  have d0 : ((0 : Int) != 0) = false := rfl
  have xp := dotE_Ex (n := 4) (Nat.le_of_ble_eq_true rfl) wp.finL wp.finL
  have xa := dotE_Ex (n := 4) (Nat.le_of_ble_eq_true rfl) wa.finL wa.finL
  have xb := dotE_Ex (n := 4) (Nat.le_of_ble_eq_true rfl) wb.finL wb.finL
  have xm := xa.mul xb
  have vp := (sum_EV wp).up (Sc + Sc)
  have vm := (sum_EV wa).mul (sum_EV wb)
  have vv : (hW A0 A1 A2 A3 B0 B1 B2 B3 * hW A0 A1 A2 A3 B0 B1 B2 B3 + hX A0 A1 A2 A3 B0 B1 B2 B3 * hX A0 A1 A2 A3 B0 B1 B2 B3 + hY A0 A1 A2 A3 B0 B1 B2 B3 * hY A0 A1 A2 A3 B0 B1 B2 B3 + hZ A0 A1 A2 A3 B0 B1 B2 B3 * hZ A0 A1 A2 A3 B0 B1 B2 B3) * 2 ^ (Sc + Sc) * 2 ^ (Sc + Sc) = (A0 * A0 + A1 * A1 + A2 * A2 + A3 * A3) * 2 ^ (Sc + Sc) * ((B0 * B0 + B1 * B1 + B2 * B2 + B3 * B3) * 2 ^ (Sc + Sc)) := by
    rw [euler]
    generalize (2 : Int) ^ (Sc + Sc) = K
    grind
  rw [vv] at vp
  have c1 := sgn_same vp vm
  have qx : hX A0 A1 A2 A3 A0 (-A1) (-A2) (-A3) = 0 := by unfold hX; grind
  have qy : hY A0 A1 A2 A3 A0 (-A1) (-A2) (-A3) = 0 := by unfold hY; grind
  have qz : hZ A0 A1 A2 A3 A0 (-A1) (-A2) (-A3) = 0 := by unfold hZ; grind
  have qw : hW A0 A1 A2 A3 A0 (-A1) (-A2) (-A3) = A0 * A0 + A1 * A1 + A2 * A2 + A3 * A3 := by unfold hW; grind
  obtain ⟨w0, w1, w2, w3⟩ := wq
  rw [qx] at w1
  rw [qy] at w2
  rw [qz] at w3
  rw [qw] at w0
  have vq := (wh_EV w0).up Sc
  rw [Int.mul_assoc, <- Int.pow_add] at vq
  have c2 := sgn_same vq (sum_EV wa)
  have xq := ofE_Ex (wh_fin w0)
  have sW : hW (hW F0 F1 F2 F3 G0 G1 G2 G3) (hX F0 F1 F2 F3 G0 G1 G2 G3) (hY F0 F1 F2 F3 G0 G1 G2 G3) (hZ F0 F1 F2 F3 G0 G1 G2 G3) H0 H1 H2 H3 = hW F0 F1 F2 F3 (hW G0 G1 G2 G3 H0 H1 H2 H3) (hX G0 G1 G2 G3 H0 H1 H2 H3) (hY G0 G1 G2 G3 H0 H1 H2 H3) (hZ G0 G1 G2 G3 H0 H1 H2 H3) := by unfold hW hX hY hZ; grind
  have sX : hX (hW F0 F1 F2 F3 G0 G1 G2 G3) (hX F0 F1 F2 F3 G0 G1 G2 G3) (hY F0 F1 F2 F3 G0 G1 G2 G3) (hZ F0 F1 F2 F3 G0 G1 G2 G3) H0 H1 H2 H3 = hX F0 F1 F2 F3 (hW G0 G1 G2 G3 H0 H1 H2 H3) (hX G0 G1 G2 G3 H0 H1 H2 H3) (hY G0 G1 G2 G3 H0 H1 H2 H3) (hZ G0 G1 G2 G3 H0 H1 H2 H3) := by unfold hW hX hY hZ; grind
  have sY : hY (hW F0 F1 F2 F3 G0 G1 G2 G3) (hX F0 F1 F2 F3 G0 G1 G2 G3) (hY F0 F1 F2 F3 G0 G1 G2 G3) (hZ F0 F1 F2 F3 G0 G1 G2 G3) H0 H1 H2 H3 = hY F0 F1 F2 F3 (hW G0 G1 G2 G3 H0 H1 H2 H3) (hX G0 G1 G2 G3 H0 H1 H2 H3) (hY G0 G1 G2 G3 H0 H1 H2 H3) (hZ G0 G1 G2 G3 H0 H1 H2 H3) := by unfold hW hX hY hZ; grind
  have sZ : hZ (hW F0 F1 F2 F3 G0 G1 G2 G3) (hX F0 F1 F2 F3 G0 G1 G2 G3) (hY F0 F1 F2 F3 G0 G1 G2 G3) (hZ F0 F1 F2 F3 G0 G1 G2 G3) H0 H1 H2 H3 = hZ F0 F1 F2 F3 (hW G0 G1 G2 G3 H0 H1 H2 H3) (hX G0 G1 G2 G3 H0 H1 H2 H3) (hY G0 G1 G2 G3 H0 H1 H2 H3) (hZ G0 G1 G2 G3 H0 H1 H2 H3) := by unfold hW hX hY hZ; grind
  rw [sW, sX, sY, sZ] at ws
  unfold s_q48 G_q48
  rw [law_awake hN, Bool.not_true, cond_false, ea, eb, ep, d0, cond_false, law_sum4 hN wp.finL]
  unfold exK
  dsimp only
  rw [law_sum4 hN wa.finL]
  unfold exK
  dsimp only
  rw [law_sum4 hN wb.finL]
  unfold exK
  dsimp only
  rw [law_ExMul hN xa xb (by omega) (by omega)]
  unfold exK
  dsimp only
  rw [law_ExCmp hN (xp.mono (E' := 2200 + 2200) (B' := 4200 + 4200) (by omega) (by omega)) xm (by omega), c1, d0, cond_false, law_Conj hN wa.fin, eq, d0, show (false == false) = true from rfl, cond_true, wh_feq w1 wh_zero, wh_feq w2 wh_zero, wh_feq w3 wh_zero, show ((!true) == false) = true from rfl, cond_true, cond_true, cond_true, law_Of hN (wh_fin w0) (wh_FW w0)]
  unfold exK
  dsimp only
  rw [law_sum4 hN wa.finL]
  unfold exK
  dsimp only
  rw [law_ExCmp hN (xq.mono (E' := 2200) (B' := 4200) (by omega) (by omega)) xa (by omega), c2, d0, cond_false, ef, eg, eh, er, es, et, eu, show ((0 : Int) == 0) = true from rfl, show (true == true) = true from rfl, cond_true, cond_true, law_equal N ws wu]
end Go.Proofs.YtccocdgimamdhaaGreatDoor
end
