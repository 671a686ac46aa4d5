/-
  PURE: the root of an information behind a row: whatever happens, what is told.
  Conditions: none.
-/
import Derived.Test.YtjpaijnmiaoopaaGreatDoorL2
import Derived.Test.YtjpaijnmiaoopaaGreatDoorFlG
section
namespace Go.Proofs.YtjpaijnmiaoopaaGreatDoor
open Go Go.Mach Ieee
set_option linter.unusedVariables false
theorem iterG_out {σ : Type} {step : σ -> (σ -> Bool) -> Bool} (P : Nat -> σ -> Prop) (R : Bool -> Prop) (n : Nat)
  (hs : ∀ i s, i < n -> P i s -> ∀ K : σ -> Bool, (∀ s', P (i + 1) s' -> R (K s')) -> R (step s K)) (hx : ∀ s, P n s -> ∀ K : σ -> Bool, R (step s K)) :
  ∀ (d i : Nat) (N : Nat) (s : σ), n - i = d -> i <= n -> P i s -> d < N -> R (iterG N step s)
 | d, i, 0, s, h1, h2, h3, h4 => by omega
 | 0, i, N + 1, s, h1, h2, h3, h4 => by
  obtain rfl : i = n := by omega
  exact hx s h3 _
 | d + 1, i, N + 1, s, h1, h2, h3, h4 => by
  show R (step s (iterG N step))
  exact hs i s (by omega) h3 _ fun s' hs' => iterG_out P R n hs hx d (i + 1) N s' (by omega) (by omega) hs' (by omega)
theorem iterG_out0 {σ : Type} {step : σ -> (σ -> Bool) -> Bool} (P : Nat -> σ -> Prop) (R : Bool -> Prop) (m n : Nat) (hm : m <= n) {N : Nat} (hN : n < N) {s : σ} (h0 : P m s)
  (hs : ∀ i s, i < n -> P i s -> ∀ K : σ -> Bool, (∀ s', P (i + 1) s' -> R (K s')) -> R (step s K)) (hx : ∀ s, P n s -> ∀ K : σ -> Bool, R (step s K)) : R (iterG N step s) :=
 iterG_out P R n hs hx (n - m) m N s rfl hm h0 (by omega)
theorem getD_setS {l : List Fl} {i : Nat} {a d : Fl} (h : i < l.length) : (l.set i a).getD i d = a := by
 rw [List.getD_eq_getElem?_getD, List.getElem?_set_self h]; rfl
theorem getD_setN {l : List Fl} {i j : Nat} {a d : Fl} (h : i ≠ j) : (l.set i a).getD j d = l.getD j d := by
 rw [List.getD_eq_getElem?_getD, List.getD_eq_getElem?_getD, List.getElem?_set_ne h]
theorem allFin_one (x : Fl) : allFin [x] = finF x := by
 rw [Bool.eq_iff_iff, allFin, allN_iff]
 constructor
 ·intro h; exact h 0 (by show 0 < 1; omega)
 ·intro h i hi
  obtain rfl : i = 0 := by have : i < 1 := hi; omega
  exact h
def lchk (n : Int) (h : List Fl) (r z : Fl) : Int :=
 if (h.length : Int) = n then (if allFin h = true /\ finF r = true then (if fle r (some 0) = true then 152 else if finF z = true then 0 else 4) else 4) else 3
theorem law_line {N : Nat} (n : Int) (h : List Fl) (r z : Fl) (hs : Small N h.length) (h1 : 1 < N) (k : Int -> Bool) : s_info_line N n h r z k = k (lchk n h r z) := by
 unfold s_info_line G_info_line lchk
 have o1 : ∀ x : Fl, Small N [x].length := fun x => ⟨h1, by show 1 <= 17592186044416; omega⟩
 simp only [law_Finite h hs, law_Finite [r] (o1 r), law_Finite [z] (o1 z), allFin_one, ne_dec]
 by_cases e : (h.length : Int) = n
 ·rw [dec_true e, if_pos e]
  cases allFin h <;> cases finF r <;> cases fle r (some 0) <;> cases finF z <;> rfl
 ·rw [dec_false e, if_neg e]; rfl
theorem lchk_zero {n : Int} {h : List Fl} {r z : Fl} (hc : lchk n h r z = 0) : (h.length : Int) = n /\ allFin h = true /\ finF r = true /\ finF z = true /\ fle r (some 0) = false := by
 unfold lchk at hc
 split at hc
 ·rename_i h1
  split at hc
  ·rename_i h2
   split at hc
   ·cases hc
   ·rename_i h3
    split at hc
    ·rename_i h4; exact ⟨h1, h2.1, h2.2, h4, by simpa using h3⟩
    ·cases hc
  ·cases hc
 ·cases hc
def isz (x : Fl) : Bool := match x with | some b => b == 0 | none => false
def lwRow (xs : List Fl) (n i : Nat) : Bool := allN (fun j => isz (elt xs n i j)) i
def upper (xs : List Fl) (n : Nat) : Bool := allN (fun i => diaP xs n i && lwRow xs n i) n
def ichk (x : List Fl) (r c : Int) (xs : List Fl) : Int :=
 if chk r c xs ≠ 0 then chk r c xs else if r = c /\ (x.length : Int) = r then (if allFin x = true then (if upper xs x.length = true then 0 else 171) else 4) else 3
theorem fin_some {x : Fl} (h : finF x = true) : ∃ b : Nat, x = some b := by
 cases x with
 | none => cases h
 | some b => exact ⟨b, rfl⟩
theorem law_upper {N n : Nat} {xs x : List Fl} (hn : n <= 12) (hN : 12 < N) (hl : xs.length = n * n) (hf : allFin xs = true) (k : Int -> Bool) :
  iterG N (st_info_CheckRoot_1 N (sQ20 N) (sQ24 N) (sQ13 N) n n n n xs x (fun t => k t) (k 0)) 0 = k (if upper xs n = true then 0 else 171) := by
 have e : k (if upper xs n = true then 0 else 171) = cond (upper xs n) (k 0) (k 171) := by cases upper xs n <;> rfl
 rw [e]
 refine iterG_all0 (fun i => (i : Int)) (fun i => diaP xs n i && lwRow xs n i) n rfl (by omega) (fun i hi K => ?_) (fun K => ?_)
 ·simp only [st_info_CheckRoot_1]
  have a1 := idx_lt hi hi
  have a2 := nn_le hn
  have a3 := in_le hn hi
  rw [dec_true (by omega), cond_true, toNat_idx, and_true_of (fits_ok (by omega) (by omega)), and_true_of (fits_ok (by omega) (by omega)), and_true_of (inR_of (by omega) (by omega))]
  show cond (!diaP xs n i) (k 171) _ = _
  cases diaP xs n i
  ·rfl
  ·have := iterG_all0 (N := N) (step := st_info_CheckRoot_3 N (sQ20 N) (sQ24 N) (sQ13 N) n i n i i n n xs x k ((fits .i64 (i + 1)) && K (i + 1))) (s := 0) (ex := k 171) (out := K (i + 1)) (fun d => (d : Int)) (fun j => isz (elt xs n i j)) i rfl (by omega) (fun j hj K => ?_) (fun K => ?_)
   ·exact this
   ·simp only [st_info_CheckRoot_3]
    have b1 := idx_lt hi (show j < n by omega)
    rw [dec_true (by omega), cond_true, toNat_idx, and_true_of (fits_ok (by omega) (by omega)), and_true_of (fits_ok (by omega) (by omega)), and_true_of (inR_of (by omega) (by omega))]
    have hx := allFin_get hf (show i * n + j < xs.length by omega)
    unfold elt
    obtain ⟨b, hb⟩ := fin_some hx
    rw [hb]
    show cond ((b : Int) != 0) _ _ = cond (b == 0) _ _
    rw [and_true_of (fits_ok (by omega) (by omega))]
    have : ((b : Int) != 0) = !(b == 0) := by
     rw [Bool.eq_iff_iff]; simp
    rw [this]
    cases b == 0 <;> rfl
   ·simp only [st_info_CheckRoot_3]
    rw [dec_false (by omega), cond_false, and_true_of (fits_ok (by omega) (by omega))]
 ·simp only [st_info_CheckRoot_1]
  rw [dec_false (by omega), cond_false]
theorem law_info_CheckRoot {N : Nat} (x : List Fl) (r c : Int) (xs : List Fl) (hN : 1000 <= N) (hx : Small N x.length) (hs : Small N xs.length) (k : Int -> Bool) : s_info_CheckRoot N r c xs x k = k (ichk x r c xs) := by
 unfold s_info_CheckRoot G_info_CheckRoot ichk
 simp only [law_Check _ _ xs hs, law_Finite x hx, ne_dec]
 by_cases h0 : chk r c xs = 0
 ·rw [dec_true h0, if_neg (by simpa using h0)]
  by_cases h1 : r = c
  ·subst h1
   rw [dec_true (p := r = r) rfl]
   by_cases h2 : (x.length : Int) = r
   ·subst h2
    rw [dec_true (p := (x.length : Int) = x.length) rfl]
    have q := chk_zero.1 h0
    have hn : x.length <= 12 := by have := q.1; omega
    have hl : xs.length = x.length * x.length := by have := q.2.1; exact_mod_cast this
    have := law_upper (N := N) (x := x) hn (by omega) hl q.2.2 k
    simp only [this]
    cases allFin x <;> rfl
   ·rw [dec_false h2, if_neg (fun h => h2 h.2)]; rfl
  ·rw [dec_false h1, if_neg (fun h => h1 h.1)]; rfl
 ·rw [dec_false h0, if_pos h0]; rfl
theorem ichk_zero {x : List Fl} {r c : Int} {xs : List Fl} (h : ichk x r c xs = 0) : ∃ n : Nat, x.length = n /\ r = n /\ c = n /\ n <= 12 /\ xs.length = n * n /\ allFin x = true /\ allFin xs = true /\ ∀ i, i < n -> diaP xs n i = true := by
 unfold ichk at h
 split at h
 ·exact absurd h (by assumption)
 ·rename_i h0
  have h0 : chk r c xs = 0 := by simpa using h0
  split at h
  ·rename_i h1
   obtain ⟨rfl, h1⟩ := h1
   subst h1
   have q := chk_zero.1 h0
   split at h
   ·split at h
    ·rename_i h2 h3
     exact ⟨_, rfl, rfl, rfl, by omega, by exact_mod_cast q.2.1, h2, q.2.2, fun i hi => by have := allN_iff.1 h3 i hi; rw [Bool.and_eq_true] at this; exact this.1⟩
    ·cases h
   ·cases h
  ·cases h
theorem law_turn (N : Nat) (c s a b : Fl) (o : Bool) : ∃ o' x y, (o' = false -> finF y = true) /\ ∀ k, s_v_info_rotation_turn_p0 N c s a b o k = k x y o' := by
 refine ⟨((((((o || !finF (fmul c a)) || !finF (fmul s b)) || !finF (fadd (fmul c a) (fmul s b))) || !finF (fmul c b)) || !finF (fmul s a)) || !finF (fsub (fmul c b) (fmul s a))), fadd (fmul c a) (fmul s b), fsub (fmul c b) (fmul s a), ?_, fun k => ?_⟩
 ·intro h
  rw [Bool.or_eq_false_iff] at h
  simpa using h.2
 ·unfold s_v_info_rotation_turn_p0 G_v_info_rotation_turn_p0
  simp only [law_Mul, law_StOf (FW_fadd _ _), law_StOf (FW_fsub _ _)]
def Grown (p q : Fl) : Prop := q = p \/ ∃ w, q = fsqrt (fadd (fmul p p) (fmul w w)) /\ finF w = true /\ finF (fmul p p) = true /\ finF (fmul w w) = true /\ finF (fadd (fmul p p) (fmul w w)) = true /\ fgt q (some 0) = true /\ finF q = true
def Nul (h : List Fl) (d : Fl) (n : Nat) : Prop := ∀ j, j < n -> feq (fdiv (h.getD j none) d) (some 0) = true
theorem FW_fsqrt (x : Fl) : FW (fsqrt x) := by
 cases x with
 | none => intro b hb; cases hb
 | some a =>
  show FW (((Ieee.double.read a).root (Ieee.double.fractionBits + 2)).map Ieee.double.write)
  exact map_W64
theorem elt_set {l : List Fl} {n i j a b : Nat} {v : Fl} (hb : b < n) (hj : j < n) (hl : i * n + j < l.length) : elt (l.set (i * n + j) v) n a b = if a = i /\ b = j then v else elt l n a b := by
 unfold elt
 by_cases h : a = i /\ b = j
 ·rw [if_pos h, h.1, h.2, getD_setS hl]
 ·rw [if_neg h]
  refine getD_setN fun hc => h ?_
  have e1 : (i * n + j) / n = (a * n + b) / n := by rw [hc]
  have e2 : (i * n + j) % n = (a * n + b) % n := by rw [hc]
  rw [idx_div hj, idx_div hb] at e1
  rw [idx_mod hj, idx_mod hb] at e2
  exact ⟨e1.symm, e2.symm⟩
theorem fmul_stick {x : Fl} (hx : finF x = false) : finF (fmul x x) = false := by
 cases x with
 | none => rfl
 | some b =>
  cases hr : Ieee.double.read b with
  | number s m i => rw [finF_of hr] at hx; cases hx
  | nan s f =>
   show finF (((Ieee.double.read b).product (Ieee.double.read b)).map Ieee.double.write) = false
   rw [hr]; rfl
  | infinity s =>
   show finF (((Ieee.double.read b).product (Ieee.double.read b)).map Ieee.double.write) = false
   rw [hr]
   show finF (some (Ieee.double.write (.infinity (s ^^ s)))) = false
   cases s <;> decide
structure RootF (n : Nat) (xs x h : List Fl) (r z : Fl) (t : Fl) (xs' x' : List Fl) : Prop where
 l1 : xs'.length = n * n
 l2 : x'.length = n
 g : ∀ i, i < n -> Grown (elt xs n i i) (elt xs' n i i)
 z : Nul h (fsqrt r) n -> xs' = xs /\ x' = x /\ t = fdiv z (fsqrt r)
 f : finF t = true
 rf : finF r = true
 rp : fle r (some 0) = false
 hl : h.length = n
structure RootI (n : Nat) (xs x h : List Fl) (r z : Fl) (i : Nat) (s : Fl × Int × Bool × List Fl × List Fl × List Fl) : Prop where
 t : s.2.1 = i
 lw : s.2.2.2.1.length = n
 l1 : s.2.2.2.2.1.length = n * n
 l2 : s.2.2.2.2.2.length = n
 o : s.2.2.1 = false -> finF s.1 = true
 g : ∀ l, l < i -> l < n -> Grown (elt xs n l l) (elt s.2.2.2.2.1 n l l)
 u : ∀ l, i <= l -> l < n -> elt s.2.2.2.2.1 n l l = elt xs n l l
 z : Nul h (fsqrt r) n -> (∀ j, j < n -> feq (s.2.2.2.1.getD j none) (some 0) = true) /\ s.2.2.2.2.1 = xs /\ s.2.2.2.2.2 = x /\ s.1 = fdiv z (fsqrt r)
theorem or_false2 {a b : Bool} (h : (a || !b) = false) : a = false /\ b = true := by
 rw [Bool.or_eq_false_iff] at h
 exact ⟨h.1, by simpa using h.2⟩
theorem law_UpdateRoot {N : Nat} (hN : 1000 <= N) (r0 c0 : Int) (xs x h : List Fl) (r z : Fl) (hxs : Small N xs.length) (hx : Small N x.length) (hh : Small N h.length)
  (k0 : Int -> Int -> Fl -> Int -> Bool) (k1 : Int -> Int -> Fl -> Int -> List Fl -> List Fl -> Bool) (R : Bool -> Prop) (h0 : ∀ e, e ≠ 0 -> R (k0 0 0 (some 0) e))
  (h1 : ∀ (n : Nat) (t : Fl) (xs' x' : List Fl), r0 = n -> c0 = n -> n <= 12 -> xs.length = n * n -> x.length = n -> allFin xs = true -> allFin x = true -> (∀ i, i < n -> diaP xs n i = true) -> RootF n xs x h r z t xs' x' -> R (k1 n n t 0 xs' x')) :
  R (s_info_UpdateRoot N r0 c0 xs x h r z k0 k1) := by
 unfold s_info_UpdateRoot G_info_UpdateRoot
 simp only [law_info_CheckRoot x r0 c0 xs hN hx hxs, law_line _ h r z hh (by omega : 1 < N)]
 by_cases hc : ¬ ichk x r0 c0 xs = 0
 ·rw [ne_dec, dec_false hc, Bool.not_false, cond_true]; exact h0 _ hc
 have hc : ichk x r0 c0 xs = 0 := by simpa using hc
 rw [ne_dec, dec_true hc, Bool.not_true, cond_false]
 obtain ⟨n, n1, n2, n3, n4, n5, n6, n7, n8⟩ := ichk_zero hc
 by_cases hl : ¬ lchk (x.length : Nat) h r z = 0
 ·rw [ne_dec, dec_false hl, Bool.not_false, cond_true]; exact h0 _ hl
 have hl : lchk (x.length : Nat) h r z = 0 := by simpa using hl
 rw [ne_dec, dec_true hl, Bool.not_true, cond_false]
 obtain ⟨m1, m2, m3, m4, m5⟩ := lchk_zero hl
 have m1 : h.length = n := by omega
 rw [n1]
 have a2 := nn_le n4
 simp only [law_Sqrt, s_slices_Clone___float64_float64_]
 rw [dec_true (by omega), Bool.true_and, dec_true (by omega), Bool.true_and]
 have hmk : mkOk 8 (n : Int) (n : Int) = true := by unfold mkOk; simp; omega
 rw [hmk, Bool.true_and]
 refine iterG_out0 (fun i (s : Int × Bool × List Fl) => s.1 = i /\ s.2.2.length = n /\ ∀ j, j < i -> j < n -> s.2.2.getD j none = fdiv (h.getD j none) (fsqrt r)) R 0 n (by omega) (by omega) ⟨rfl, by simp, fun j hj => by omega⟩ (fun i s hi hs K hK => ?_) (fun s hs K => ?_)
 ·obtain ⟨t, o, w⟩ := s
  obtain ⟨rfl, s2, s3⟩ := hs
  simp only at s2 s3
  simp only [st_info_UpdateRoot_0, Int.toNat_natCast]
  rw [dec_true (by omega), cond_true, and_true_of (inR_of (by omega) (by omega)), law_StOf (FW_fdiv _ _), and_true_of (inR_of (by omega) (by omega)), and_true_of (dec_true (by omega)), and_true_of (fits_ok (by omega) (by omega))]
  refine hK _ ⟨by simp, by simp [s2], fun j hj hjn => ?_⟩
  simp only
  by_cases hij : i = j
  ·subst hij; rw [getD_setS (by omega)]
  ·rw [getD_setN hij]; exact s3 j (by omega) hjn
 obtain ⟨t, o, w⟩ := s
 obtain ⟨rfl, s2, s3⟩ := hs
 simp only at s2 s3
 simp only [st_info_UpdateRoot_0]
 rw [dec_false (by omega), cond_false, law_StOf (FW_fdiv _ _)]
 refine iterG_out0 (RootI n xs x h r z) R 0 n (by omega) (by omega) ⟨rfl, s2, n5, n1, fun ho => (or_false2 ho).2, fun l hl => by omega, fun l _ _ => rfl, fun hz => ⟨fun j hj => by simp only; rw [s3 j hj hj]; exact hz j hj, rfl, rfl, rfl⟩⟩ (fun i s hi hs K hK => ?_) (fun s hs K => ?_)
 ·obtain ⟨rest, t, o, w, b4, b5⟩ := s
  obtain ⟨t1, lw, l1, l2, ho, hg, hu, hz⟩ := hs
  simp only at t1 lw l1 l2 ho hg hu hz
  subst t1
  have a1 := idx_lt hi hi
  have a3 := in_le n4 hi
  simp only [st_info_UpdateRoot_2, Int.toNat_natCast, toNat_idx]
  rw [dec_true (by omega), cond_true, and_true_of (inR_of (by omega) (by omega)), and_true_of (dec_true (by omega))]
  by_cases hq : feq (w.getD i none) (some 0) = true
  ·rw [hq, cond_true, and_true_of (fits_ok (by omega) (by omega))]
   refine hK _ ⟨by simp, lw, l1, l2, ho, fun l hl hln => ?_, fun l hl hln => hu l (by omega) hln, hz⟩
   by_cases hli : l = i
   ·subst hli; exact .inl (hu l (by omega) hln)
   ·exact hg l (by omega) hln
  have hq : feq (w.getD i none) (some 0) = false := by simpa using hq
  rw [hq, cond_false, and_true_of (fits_ok (by omega) (by omega)), and_true_of (fits_ok (by omega) (by omega)), and_true_of (inR_of (by omega) (by omega)), and_true_of (dec_true (by omega))]
  simp only [law_Mul, law_StOf (FW_fadd _ _), law_StOf (FW_fsqrt _), law_StOf (FW_fdiv _ _), law_Sqrt, sQ22, GQ22]
  have e1 : inR (i : Int) w.length = true := inR_of (by omega) (by omega)
  have e2 : decide (i < w.length) = true := dec_true (by omega)
  have e3 : fits .i64 ((i : Int) * (n : Int)) = true := fits_ok (by omega) (by omega)
  have e4 : fits .i64 ((i : Int) * (n : Int) + i) = true := fits_ok (by omega) (by omega)
  have e5 : inR ((i : Int) * (n : Int) + i) b4.length = true := inR_of (by omega) (by omega)
  have e6 : decide (i * n + i < b4.length) = true := dec_true (by omega)
  have e7 : fits .i64 ((i : Int) + 1) = true := fits_ok (by omega) (by omega)
  have e8 : inR (i : Int) b5.length = true := inR_of (by omega) (by omega)
  have e9 : decide (i < b5.length) = true := dec_true (by omega)
  simp only [e1, e2, e3, e4, e5, e6, e7, e8, e9, Bool.true_and]
  rw [show b4.getD (i * n + i) none = elt xs n i i from hu i (by omega) hi]
  generalize hp : elt xs n i i = p
  generalize hwi : w.getD i none = wi
  cases hov : ((((o || !finF (fmul p p)) || !finF (fmul wi wi)) || !finF (fadd (fmul p p) (fmul wi wi))) || !finF (fsqrt (fadd (fmul p p) (fmul wi wi))))
  case true => rw [cond_true]; exact h0 5 (by decide)
  rw [cond_false]
  obtain ⟨hov, f4⟩ := or_false2 hov
  obtain ⟨hov, f3⟩ := or_false2 hov
  obtain ⟨hov, f2⟩ := or_false2 hov
  obtain ⟨hov, f1⟩ := or_false2 hov
  cases hgt : fgt (fsqrt (fadd (fmul p p) (fmul wi wi))) (some 0)
  ·rw [Bool.not_false, cond_true]; exact h0 171 (by decide)
  rw [Bool.not_true, cond_false]
  have hwf : finF wi = true := by
   cases hc : finF wi with
   | true => rfl
   | false => exact absurd f2 (by rw [fmul_stick hc]; decide)
  refine iterG_out0 (fun j (s : Int × Bool × List Fl × List Fl) => s.1 = j /\ i + 1 <= j /\ s.2.2.1.length = n /\ s.2.2.2.length = n * n /\ ∀ l, l < n -> elt s.2.2.2 n l l = elt (b4.set (i * n + i) (fsqrt (fadd (fmul p p) (fmul wi wi)))) n l l) R (i + 1) n (by omega) (by omega) ⟨by simp, Nat.le_refl _, lw, by simp [l1], fun l _ => rfl⟩ (fun j s hj hs K hK => ?_) (fun s hs K => ?_)
  ·obtain ⟨j', o2, w2, b6⟩ := s
   obtain ⟨rfl, s1, s2, s3, s4⟩ := hs
   simp only at s1 s2 s3 s4
   have a4 := idx_lt hi hj
   simp only [st_info_UpdateRoot_4, Int.toNat_natCast, toNat_idx]
   have d3 : fits .i64 ((i : Int) * (n : Int) + j) = true := fits_ok (by omega) (by omega)
   have d4 : inR ((i : Int) * (n : Int) + j) b6.length = true := inR_of (by omega) (by omega)
   have d5 : decide (i * n + j < b6.length) = true := dec_true (by omega)
   have d6 : inR (j : Int) w2.length = true := inR_of (by omega) (by omega)
   have d7 : decide (j < w2.length) = true := dec_true (by omega)
   have d8 : fits .i64 ((j : Int) + 1) = true := fits_ok (by omega) (by omega)
   rw [dec_true (by omega), cond_true]
   simp only [e3, d3, d4, d5, d6, d7, d8, Bool.true_and]
   obtain ⟨o', xx, yy, -, ht⟩ := law_turn N (fdiv p (fsqrt (fadd (fmul p p) (fmul wi wi)))) (fdiv wi (fsqrt (fadd (fmul p p) (fmul wi wi)))) (b6.getD (i * n + j) none) (w2.getD j none) o2
   rw [ht]
   refine hK _ ⟨by simp, by omega, by simp [s2], by simp [s3], fun l hl => ?_⟩
   simp only
   rw [elt_set hl hj (by omega), if_neg (by omega)]
   exact s4 l hl
  ·obtain ⟨j', o2, w2, b6⟩ := s
   obtain ⟨rfl, s1, s2, s3, s4⟩ := hs
   simp only at s1 s2 s3 s4
   simp only [st_info_UpdateRoot_4]
   rw [dec_false (by omega), cond_false]
   obtain ⟨o', xx, yy, hy, ht⟩ := law_turn N (fdiv p (fsqrt (fadd (fmul p p) (fmul wi wi)))) (fdiv wi (fsqrt (fadd (fmul p p) (fmul wi wi)))) (b5.getD i none) rest o2
   rw [ht]
   refine hK _ ⟨by simp, s2, s3, by simp [l2], hy, fun l hl hln => ?_, fun l hl hln => ?_, fun hz' => ?_⟩
   ·simp only
    rw [s4 l hln, elt_set hln hi (by omega)]
    by_cases hli : l = i
    ·subst hli
     rw [if_pos ⟨rfl, rfl⟩, hp]
     exact .inr ⟨wi, rfl, hwf, f1, f2, f3, hgt, f4⟩
    ·rw [if_neg (by omega)]
     exact hg l (by omega) hln
   ·simp only
    rw [s4 l hln, elt_set hln hi (by omega), if_neg (by omega)]
    exact hu l (by omega) hln
   ·have := (hz hz').1 i hi
    rw [hq] at this; cases this
 ·obtain ⟨rest, t, o, w, b4, b5⟩ := s
  obtain ⟨t1, lw, l1, l2, ho, hg, hu, hz⟩ := hs
  simp only at t1 lw l1 l2 ho hg hu hz
  simp only [st_info_UpdateRoot_2, sQ22, GQ22]
  rw [t1, dec_false (by omega), cond_false]
  cases o with
  | true => rw [cond_true]; exact h0 5 (by decide)
  | false =>
   rw [cond_false]
   exact h1 n rest b4 b5 n2 n3 n4 n5 n1 n7 n6 n8 ⟨l1, l2, fun i hi => hg i hi hi, fun h => (hz h).2, ho rfl, m3, m5, m1⟩
end Go.Proofs.YtjpaijnmiaoopaaGreatDoor
end
section
namespace Go.Proofs.YtjpaijnmiaoopaaGreatDoor
open Go Go.Mach Ieee
set_option linter.unusedVariables false
theorem vl_rv {x y : Fl} : vl x < vl y -> rv x < rv y := by
 intro k
 unfold rv
 have h := Ue_pos Sp
 have g2 := Rat.intCast_lt_intCast.2 k
 have := Rat.mul_pos ((Rat.lt_iff_sub_pos _ _).1 g2) h
 generalize ((vl x : Int) : Rat) = a at *
 generalize ((vl y : Int) : Rat) = b at *
 generalize Ue Sp = u at *
 grind
theorem vl_rv' {x y : Fl} : vl x <= vl y -> rv x <= rv y := by
 intro g
 unfold rv
 have h := Ue_pos Sp
 have g2 := Rat.intCast_le_intCast.2 g
 have := Rat.mul_nonneg ((Rat.le_iff_sub_nonneg _ _).1 g2) (Rat.le_of_lt h)
 generalize ((vl x : Int) : Rat) = a at *
 generalize ((vl y : Int) : Rat) = b at *
 generalize Ue Sp = u at *
 grind
theorem fgt_pos {x : Fl} (hx : finF x = true) (h : fgt x (some 0) = true) : 0 < rv x := by
 have hz := rv_word0 false
 have e : some (Ieee.double.word false 0) = (some 0 : Fl) := rfl
 rw [e] at hz
 have : vl (some 0) < vl x := by
  unfold fgt at h
  rw [ford_vl hx hz.1, beq_iff_eq, Option.some.injEq, Int.compare_eq_gt] at h
  omega
 have := vl_rv this
 rwa [hz.2] at this
theorem flt_rv {x y : Fl} (hx : finF x = true) (hy : finF y = true) (h : flt x y = false) : rv y <= rv x := by
 refine vl_rv' ?_
 unfold flt at h
 rw [ford_vl hx hy] at h
 rcases Int.lt_or_le (vl x) (vl y) with k | k
 ·have := Int.compare_eq_lt.2 k
  rw [this] at h; cases h
 ·exact k
theorem valE_rv {x : Fl} (hx : finF x = true) : rv x = ((valE x : Int) : Rat) * Ue Sp := by
 obtain ⟨b, s, m, i, rfl, h⟩ := finF_num hx
 rw [rv_num h, valE_num h]
 have : (i + (Sc : Int)).toNat = (i + 1074).toNat := by have := Sc_ge; have := Sc_le; omega
 rw [this]
theorem rv_pow7 {b : Nat} {i : Int} (h : Ieee.double.read b = .number false 4503599627370496 i) {n : Nat} (hi : (i + 1074).toNat + 52 + n = 1074 ) : finF (some b) = true /\ rv (some b) = Ue n := by
 refine ⟨finF_of h, ?_⟩
 rw [rv_num h, signed_cast, if_neg (by decide), Rat.natCast_mul, Rat.natCast_pow]
 generalize (i + 1074).toNat = a at *
 have hS : Sp = (a + 52) + n := by rw [Sp_eq]; omega
 rw [hS, Ue_add, Ue_add]
 have h1 : ((2 : Nat) : Rat) ^ a * Ue a = 1 := Ue_mul a
 have h2 : (2 : Rat) ^ 52 * Ue 52 = 1 := Ue_mul 52
 have h3 : ((4503599627370496 : Nat) : Rat) = (2 : Rat) ^ 52 := by decide +kernel
 rw [h3]
 generalize ((2 : Nat) : Rat) ^ a = p at *
 generalize (2 : Rat) ^ 52 = q at *
 generalize Ue a = r at *
 generalize Ue 52 = s at *
 have : q * p * (r * s * Ue n) = (p * r) * (q * s) * Ue n := by grind
 rw [this, h1, h2, Rat.one_mul, Rat.one_mul]
def lim : Fl := some 553942754166571008
theorem lim_eq : sclF (some 4607182418800017408) (-900) = lim := by
 have h : Ieee.double.read 4607182418800017408 = .number false 4503599627370496 (-52) := by decide
 rw [sclF_num h]; decide
theorem lim_val : finF lim = true /\ rv lim = Ue 900 := rv_pow7 (i := -952) (by decide) (by decide)
theorem eta_small : eta * 1267650600228229401496703205376 <= Ue 900 := by
 have h1 : eta = Ue 900 * Ue 175 := by
  unfold eta; rw [Sp_eq, <- Ue_add]
 have h2 : Ue 175 = Ue 75 * Ue 100 := by rw [<- Ue_add]
 have h3 : (1267650600228229401496703205376 : Rat) = 2 ^ 100 := by decide +kernel
 have h4 := Ue_mul 100
 have h5 : Ue 75 <= 1 := by
  have : Ue 0 = 1 := by unfold Ue; decide +kernel
  rw [<- this]; exact Ue_le (by decide)
 have h6 := Ue_pos 900
 rw [h1, h2, h3]
 have e : Ue 900 * (Ue 75 * Ue 100) * 2 ^ 100 = Ue 900 * Ue 75 := by
  have : Ue 900 * (Ue 75 * Ue 100) * 2 ^ 100 = Ue 900 * Ue 75 * (2 ^ 100 * Ue 100) := by
   generalize (2 : Rat) ^ 100 = q
   grind
  rw [this, h4, Rat.mul_one]
 rw [e]
 have := Rat.mul_nonneg (Rat.le_of_lt h6) ((Rat.le_iff_sub_nonneg _ _).1 h5)
 generalize Ue 900 = a at *
 generalize Ue 75 = b at *
 grind
theorem sq_nonneg7 (a : Rat) : 0 <= a * a := by
 rcases (Rat.le_total : 0 <= a \/ a <= 0) with h | h
 ·exact Rat.mul_nonneg h h
 ·have := Rat.mul_nonneg (show 0 <= -a by grind) (show 0 <= -a by grind)
  grind
theorem fall {a g P W S η L A B : Rat} (ha : 0 < a) (hg : 0 < g) (hA : a * a = A) (hB : 0 <= B)
  (f1 : A - (uu * A + η) <= P) (f2 : B - (uu * B + η) <= W) (f3 : (P + W) - uu * (P + W) <= S) (f4 : S - 3 * uu * S <= g * g) (f5 : L <= P) (f6 : P <= A + (uu * A + η)) (f7 : η * 1267650600228229401496703205376 <= L) (f8 : 0 < η) :
  a * 2251799813685247 <= g * 2251799813685248 := by
 rcases (Rat.le_total : a * 2251799813685247 <= g * 2251799813685248 \/ g * 2251799813685248 <= a * 2251799813685247) with h | h
 ·exact h
 ·have k1 := Rat.mul_nonneg ((Rat.le_iff_sub_nonneg _ _).1 h) (show 0 <= g * 2251799813685248 by grind)
  have k2 := Rat.mul_nonneg ((Rat.le_iff_sub_nonneg _ _).1 h) (show 0 <= a * 2251799813685247 by grind)
  have k3 : 5070602400912917605986812821504 * (g * g) <= 5070602400912913102387185451009 * A := by rw [<- hA]; grind
  clear k1 k2 h
  generalize g * g = G at *
  exfalso
  unfold uu at *
  grind
theorem grown_val {p q : Fl} (hp : finF p = true) (h0 : fgt p (some 0) = true) (hg : Grown p q) (hl : flt (fmul p p) lim = false) : finF q = true /\ valE p * 2251799813685247 <= valE q * 2251799813685248 := by
 have hp0 := fgt_pos hp h0
 have back : ∀ q, finF q = true -> rv p * 2251799813685247 <= rv q * 2251799813685248 -> valE p * 2251799813685247 <= valE q * 2251799813685248 := by
  intro q hq h
  rw [valE_rv hp, valE_rv hq] at h
  have hu := Ue_pos Sp
  rcases Int.lt_or_le (valE q * 2251799813685248) (valE p * 2251799813685247) with k | k
  ·have k2 := Rat.intCast_lt_intCast.2 k
   rw [Rat.intCast_mul, Rat.intCast_mul] at k2
   have := Rat.mul_pos ((Rat.lt_iff_sub_pos _ _).1 k2) hu
   generalize ((valE p : Int) : Rat) = a at *
   generalize ((valE q : Int) : Rat) = b at *
   generalize Ue Sp = u at *
   have e1 : (((2251799813685247 : Int)) : Rat) = 2251799813685247 := rfl
   have e2 : (((2251799813685248 : Int)) : Rat) = 2251799813685248 := rfl
   rw [e1, e2] at this
   grind
  ·exact k
 rcases hg with rfl | ⟨w, rfl, hw, f1, f2, f3, hgt, f4⟩
 ·refine ⟨hp, back _ hp ?_⟩
  grind
 ·refine ⟨f4, back _ f4 ?_⟩
  have m1 := (mul_nearF hp hp (.inr f1)).2.2
  have m2 := (mul_nearF hw hw (.inr f2)).2.2
  have m3 := (add_nearF f1 f2 f3).2
  have hL := flt_rv f1 lim_val.1 hl
  rw [lim_val.2] at hL
  have q1 := m1 (rv p * rv p) ⟨by have := sq_nonneg7 (rv p); grind, Rat.le_refl⟩
  have q2 := m2 (rv w * rv w) ⟨by have := sq_nonneg7 (rv w); grind, Rat.le_refl⟩
  have hB := sq_nonneg7 (rv w)
  have he := eta_small
  have he0 := eta_pos
  have hW : -eta <= rv (fmul w w) := by
   obtain ⟨a1, a2⟩ := q2
   generalize rv w * rv w = B at *
   unfold uu at *
   grind
  have hPW : 0 <= rv (fmul p p) + rv (fmul w w) := by
   generalize rv (fmul p p) = x at *
   generalize rv (fmul w w) = y at *
   grind
  have q3 := m3 (rv (fmul p p) + rv (fmul w w)) ⟨by grind, Rat.le_refl⟩
  have hS : 0 < rv (fadd (fmul p p) (fmul w w)) := by
   obtain ⟨a1, a2⟩ := q3
   generalize rv (fmul p p) = x at *
   generalize rv (fmul w w) = y at *
   unfold uu at *
   grind
  obtain ⟨s1, s2, s3⟩ := sqrt_near f3 hS
  refine fall (L := Ue 900) (η := eta) (P := rv (fmul p p)) (W := rv (fmul w w)) (S := rv (fadd (fmul p p) (fmul w w))) hp0 s2 rfl hB ?_ ?_ ?_ ?_ hL ?_ he he0
  ·have := q1.1; grind
  ·have := q2.1; grind
  ·have := q3.1; grind
  ·have := s3.1; grind
  ·have := q1.2; grind
end Go.Proofs.YtjpaijnmiaoopaaGreatDoor
end
section
namespace Go.Proofs.YtjpaijnmiaoopaaGreatDoor
open Go Go.Mach Ieee
set_option linter.unusedVariables false
def turnS (xs : List Fl) (n i t : Nat) : Nat -> Nat -> Fl := fun a b => if b < i \/ (b = i /\ a < t) then elt xs n b a else some 0
theorem law_Turn {N n : Nat} (hn : n <= 12) (hN : 1000 <= N) {xs : List Fl} (hl : xs.length = n * n) (k : List Fl -> Bool) : sQ73 N n n xs k = k (mf n (fun a b => elt xs n b a)) := by
 unfold sQ73 GQ73
 rw [law_rZero hn]
 refine iterG_eq0 (fun i => ((i : Int), mf n (turnS xs n i 0))) n ?_ (by omega) (fun i hi K => ?_) (fun K => ?_)
 ·refine Prod.ext rfl ?_
  show mf n (fun _ _ => some 0) = mf n (turnS xs n 0 0)
  exact mf_congr n fun a b ha hb => by unfold turnS; rw [if_neg (by omega)]
 ·simp only [st_z17_Turn_0]
  rw [dec_true (by omega), cond_true]
  refine iterG_eq0 (fun t => ((t : Int), mf n (turnS xs n i t))) n rfl (by omega) (fun t ht K' => ?_) (fun K' => ?_)
  ·simp only [st_z17_Turn_2]
   rw [dec_true (by omega), cond_true, law_matR hn hi ht hl, law_put hn ht hi, and_true_of (fits_ok (by omega) (by omega))]
   have : mf n (fun a b => if a = t /\ b = i then elt xs n i t else turnS xs n i t a b) = mf n (turnS xs n i (t + 1)) := mf_congr n fun a b ha hb => by
    unfold turnS
    by_cases h : a = t /\ b = i
    ·rw [if_pos h, if_pos (by omega), h.1, h.2]
    ·rw [if_neg h]
     by_cases h2 : b < i \/ (b = i /\ a < t)
     ·rw [if_pos h2, if_pos (by omega)]
     ·rw [if_neg h2, if_neg (by omega)]
   rw [this]; rfl
  ·simp only [st_z17_Turn_2]
   rw [dec_false (by omega), cond_false, and_true_of (fits_ok (by omega) (by omega))]
   have : mf n (turnS xs n i n) = mf n (turnS xs n (i + 1) 0) := mf_congr n fun a b ha hb => by
    unfold turnS
    by_cases h2 : b < i \/ (b = i /\ a < n)
    ·rw [if_pos h2, if_pos (by omega)]
    ·rw [if_neg h2, if_neg (by omega)]
   rw [this]; rfl
 ·simp only [st_z17_Turn_0]
  rw [dec_false (by omega), cond_false]
  congr 1
  exact mf_congr n fun a b ha hb => by unfold turnS; rw [if_pos (by omega)]
theorem law_Tri {N n : Nat} {xs : List Fl} (hn : n <= 12) (hN : 1000 <= N) (hl : xs.length = n * n) : ∃ e : Int, ∀ k, sQ46 N n n xs k = k e := by
 by_cases h0 : ¬ chk n n xs = 0
 ·refine ⟨chk n n xs, fun k => ?_⟩
  unfold sQ46 GQ46
  rw [law_Good hN, ne_dec, dec_false h0, Bool.not_false, cond_true]
 have h0 : chk n n xs = 0 := by simpa using h0
 refine ⟨if allN (fun i => diaP xs n i && lowRow xs n i) n = true then 0 else 93, fun k => ?_⟩
 unfold sQ46 GQ46
 rw [law_Good hN, ne_dec, dec_true h0, Bool.not_true, cond_false, ne_dec, dec_true (p := (n : Int) = n) rfl, Bool.not_true, cond_false]
 have e : k (if allN (fun i => diaP xs n i && lowRow xs n i) n = true then 0 else 93) = cond (allN (fun i => diaP xs n i && lowRow xs n i) n) (k 0) (k 93) := by
  cases allN (fun i => diaP xs n i && lowRow xs n i) n <;> rfl
 rw [e]
 refine iterG_all0 (fun i => (i : Int)) (fun i => diaP xs n i && lowRow xs n i) n rfl (by omega) (fun i hi K => ?_) (fun K => ?_)
 ·simp only [stQ107]
  rw [dec_true (by omega), cond_true, law_matR hn hi hi hl, and_true_of (fits_ok (by omega) (by omega))]
  show cond (!diaP xs n i) (k 93) _ = _
  cases diaP xs n i
  ·rfl
  ·have := iterG_all0 (N := N) (step := stQ103 N (sQ39 N) (sQ52 N) (sQ53 N) i n n xs k ((fits .i64 (i + 1)) && K (i + 1))) (s := (i : Int) + 1) (ex := k 93) (out := K (i + 1)) (fun d => ((i + 1 + d : Nat) : Int)) (fun d => upP xs n i (i + 1 + d)) (n - (i + 1)) (by simp) (by omega) (fun d hd K => ?_) (fun K => ?_)
   ·exact this
   ·simp only [stQ103]
    rw [dec_true (by omega), cond_true, law_matR hn hi (by omega) hl, law_ref_Same, and_true_of (fits_ok (by omega) (by omega))]
    show cond (!upP xs n i (i + 1 + d)) (k 93) _ = _
    cases upP xs n i (i + 1 + d) <;> rfl
   ·simp only [stQ103]
    rw [dec_false (by omega), cond_false, and_true_of (fits_ok (by omega) (by omega))]
 ·simp only [stQ107]
  rw [dec_false (by omega), cond_false]
theorem law_ref17 {N : Nat} (hN : 1000 <= N) (r c : Int) (xs x : List Fl) (hx : Small N x.length) : ∃ e : Int, (∀ k, sQ8 N r c xs x k = k e) /\ (e = 0 -> 0 <= r /\ r <= 12) := by
 have hg : ∀ k, sQ79 N r c xs k = k (chk r c xs) := fun k => law_Good hN r c xs k
 by_cases h0 : ¬ chk r c xs = 0
 ·refine ⟨chk r c xs, fun k => ?_, fun h => absurd h h0⟩
  unfold sQ8 GQ8
  rw [hg, ne_dec, dec_false h0, Bool.not_false, cond_true]
 have h0 : chk r c xs = 0 := by simpa using h0
 have q := chk_zero.1 h0
 by_cases h1 : ¬ r = c
 ·refine ⟨3, fun k => ?_, fun h => by cases h⟩
  unfold sQ8 GQ8
  rw [hg, ne_dec, dec_true h0, Bool.not_true, cond_false, ne_dec, dec_false h1]; rfl
 have h1 : r = c := by simpa using h1
 subst h1
 by_cases h2 : ¬ (x.length : Int) = r
 ·refine ⟨3, fun k => ?_, fun h => by cases h⟩
  unfold sQ8 GQ8
  rw [hg, ne_dec, dec_true h0, Bool.not_true, cond_false, ne_dec, dec_true (p := r = r) rfl, Bool.not_true]
  simp only [ne_dec]
  rw [dec_false h2]; rfl
 have h2 : (x.length : Int) = r := by simpa using h2
 by_cases h3 : ¬ allFin x = true
 ·refine ⟨4, fun k => ?_, fun h => by cases h⟩
  unfold sQ8 GQ8
  rw [hg, ne_dec, dec_true h0, Bool.not_true, cond_false, ne_dec, dec_true (p := r = r) rfl, Bool.not_true]
  simp only [ne_dec]
  rw [dec_true h2, law_AllFinite x hx]
  have : allFin x = false := by simpa using h3
  rw [this]; rfl
 have h3 : allFin x = true := by simpa using h3
 obtain ⟨n, rfl⟩ : ∃ n : Nat, r = n := ⟨r.toNat, by omega⟩
 have hl : xs.length = n * n := by have := q.2.1; exact_mod_cast this
 obtain ⟨e, he⟩ := law_Tri (N := N) (n := n) (xs := mf n (fun a b => elt xs n b a)) (by omega) hN (mf_len _ _)
 refine ⟨if e = 0 then 0 else 171, fun k => ?_, fun _ => q.1.1⟩
 unfold sQ8 GQ8
 rw [hg, ne_dec, dec_true h0, Bool.not_true, cond_false, ne_dec, dec_true (p := (n : Int) = n) rfl, Bool.not_true]
 simp only [ne_dec]
 rw [dec_true h2, law_AllFinite x hx, h3]
 simp only [law_Turn (by omega : n <= 12) hN hl, he]
 by_cases h4 : e = 0
 ·rw [dec_true h4, if_pos h4]; rfl
 ·rw [dec_false h4, if_neg h4]; rfl
def oneE : Int × Int := (-51, 2251799813685247)
theorem one_Ex : Ex 1100 53 oneE := ⟨by decide, by decide, by unfold Bits oneE; decide⟩
theorem one_EV : EV oneE 2251799813685247 51 := ⟨by decide, by decide⟩
theorem add_one {N : Nat} (hN : 1000 <= N) (K0 K1 : Bool) (K2 : Int -> Bool -> List Int -> Bool) (h0 : K0 = K2 (-51) true (digs 1)) (h1 : K1 = K2 0 false (digs 1)) :
  sQ0 N 0 (-51) false (digs 1) true (digs 1) K0 K1 K2 = exK oneE K2 := by
 have ea : exAdd (0, 1) (-51, -1) = oneE := by decide
 rw [<- ea]
 exact law_ExAdd (x := (0, 1)) (y := (-51, -1)) (E := 100) (B := 1) hN ⟨by decide, by decide, by unfold Bits; decide⟩ ⟨by decide, by decide, by unfold Bits; decide⟩ (by decide) K0 K1 K2 (by rw [h0]; rfl) (by rw [h1]; rfl)
theorem exact_ge {N : Nat} (hN : 1000 <= N) {p q : Fl} (hp : finF p = true) (hq : finF q = true) (h : valE p * 2251799813685247 <= valE q * 2251799813685248) (k : Int -> Bool) :
  ∃ c : Int, 0 <= c /\ sQ2 N (ofE p).1 (-51) (decide ((ofE p).2 < 0)) (digs (ofE p).2.natAbs) (decide ((2251799813685247 : Int) < 0)) (digs (2251799813685247 : Int).natAbs)
   (fun a g d => sQ1 N (ofE q).1 a (decide ((ofE q).2 < 0)) (digs (ofE q).2.natAbs) g d k) = k c := by
 have xp := ofE_Ex hp
 have xq := ofE_Ex hq
 have m := law_ExMul hN xp one_Ex (by decide) (by decide) (fun a g d => sQ1 N (ofE q).1 a (decide ((ofE q).2 < 0)) (digs (ofE q).2.natAbs) g d k)
 have xm := Ex.mul xp one_Ex
 have c := law_ExCmp hN (xq.mono (by decide : 1100 <= 1100 + 1100) (by decide : 53 <= 53 + 53)) xm (by decide) k
 refine ⟨_, ?_, Eq.trans m (by unfold exK; exact c)⟩
 have v1 := (valE_EV hq).up 51
 have v2 := (valE_EV hp).mul one_EV
 have v3 := EV.sgn (v1.add v2.neg)
 rw [v3]
 have : (2 : Int) ^ 51 = 2251799813685248 := by decide
 rw [this]
 unfold sgnI
 generalize valE q * 2251799813685248 = a at *
 generalize valE p * 2251799813685247 = b at *
 split
 ·omega
 ·split <;> omega
theorem law_grow {N : Nat} (hN : 1000 <= N) {n : Nat} (hn : n <= 12) {xs xs' x' : List Fl} (hl : xs.length = n * n) (hl' : xs'.length = n * n) (hw : AllW xs) (hf : allFin xs = true) (hd : ∀ i, i < n -> diaP xs n i = true)
  (hg : ∀ i, i < n -> Grown (elt xs n i i) (elt xs' n i i)) (z : List Int) (nn : Int) (r : List Int) (w0 : List Int) (w1 w2 : Int) (x : List Fl) (k : Bool -> Bool) :
  JQ80 N (sQ6 N) (sQ8 N) (sQ4 N) (sQ7 N) (s_info_UpdateRoot N) (sQ5 N) (sQ13 N) (sQ17 N) (sQ12 N) (sQ11 N) (sQ10 N) (sQ3 N) (sQ0 N) (sQ18 N) (sQ27 N) (sQ2 N) (sQ1 N) z n r w0 w1 w2 xs x xs' x' n n k = k true := by
 have a2 := nn_le hn
 unfold JQ80 JQ81
 have e1 : ((n : Int) != n) = false := by simp
 have e2 : fits .i64 ((n : Int) * n) = true := by rw [<- Int.natCast_mul]; exact fits_ok (by omega) (by omega)
 have e3 : (((xs'.length : Nat) : Int) != (n : Int) * n) = false := by rw [hl', Int.natCast_mul]; simp
 have f0 : ((false : Bool) == false) = true := rfl
 rw [e1, f0, cond_true, cond_true, e2, Bool.true_and, e3, cond_false]
 have w1' : ∀ k, sQ11 N 1 k = k 0 false (digs 1) := fun k => law_NewInt1 hN _
 have w2' : ∀ k, sQ10 N (-51) k = k false (digs 1) := fun k => law_NewInt1 hN _
 have w3' : ∀ k, sQ3 N (-51) false (digs 1) k = k true (digs 1) := fun k => by
  unfold sQ3 GQ3
  rw [law_Neg_n _ _ 1 (bits_short (B := 1) hN (by decide) (by unfold Bits; decide))]
  rfl
 rw [w1']
 simp only [w2', w3']
 refine Eq.trans (add_one hN _ _ _ ?_ ?_) ?_
 ·rfl
 ·rfl
 unfold exK oneE
 simp only
 refine iterG_eq0 (fun i => (i : Int)) n rfl (by omega) (fun i hi K => ?_) (fun K => ?_)
 ·simp only [stQ66]
  have a1 := idx_lt hi hi
  have a3 := in_le hn hi
  rw [dec_true (by omega), cond_true, toNat_idx]
  have d1 : fits .i64 ((i : Int) * (n : Int)) = true := fits_ok (by omega) (by omega)
  have d2 : fits .i64 ((i : Int) * (n : Int) + i) = true := fits_ok (by omega) (by omega)
  have d3 : inR ((i : Int) * (n : Int) + i) xs.length = true := inR_of (by omega) (by omega)
  have d4 : decide (i * n + i < xs.length) = true := dec_true (by omega)
  have d5 : inR ((i : Int) * (n : Int) + i) xs'.length = true := inR_of (by omega) (by omega)
  have d6 : decide (i * n + i < xs'.length) = true := dec_true (by omega)
  have d7 : fits .i64 ((i : Int) + 1) = true := fits_ok (by omega) (by omega)
  simp only [d1, d2, d3, d4, d5, d6, d7, Bool.true_and]
  have hone : finF (some 4607182418800017408) = true := by decide
  rw [law_Ldexp N hone (fun b h => by cases h; decide) (by decide) (by decide), lim_eq]
  rw [show xs.getD (i * n + i) none = elt xs n i i from rfl, show xs'.getD (i * n + i) none = elt xs' n i i from rfl]
  have hp : finF (elt xs n i i) = true := allFin_get hf (by omega)
  have hpw : FW (elt xs n i i) := AllW.get hw (by omega)
  have hgi := hg i hi
  have hdi : fgt (elt xs n i i) (some 0) = true := hd i hi
  generalize elt xs n i i = p at *
  generalize elt xs' n i i = q at *
  cases hc : flt (fmul p p) lim with
  | true => rw [cond_true]; rfl
  | false =>
   rw [cond_false]
   obtain ⟨hq, hv⟩ := grown_val hp hdi hgi hc
   have hqw : FW q := by
    rcases hgi with rfl | ⟨w, rfl, -⟩
    ·exact hpw
    ·exact FW_fsqrt _
   rw [law_Of hN hq hqw]
   unfold exK
   dsimp only
   rw [law_Of hN hp hpw]
   unfold exK
   dsimp only
   obtain ⟨c, c0, hm⟩ := exact_ge hN hp hq hv (fun nr => cond (decide (nr < 0)) (k false) (K ((i : Int) + 1)))
   refine Eq.trans hm ?_
   rw [dec_false (by omega), cond_false]; rfl
 ·simp only [stQ66]
  rw [dec_false (by omega), cond_false]
  rfl
theorem law_bits {N : Nat} (hN : 1000 <= N) (a : List Fl) (ha : Small N a.length) (hf : allFin a = true) (k : Bool -> Bool) : sQ15 N a a k = k true := by
 unfold sQ15 GQ15
 rw [ne_dec, dec_true (p := ((a.length : Nat) : Int) = (a.length : Nat)) rfl, Bool.not_true, cond_false]
 have h2 := ha.2
 refine iterG_eq0 (fun i => (i : Int)) a.length rfl ha.1 (fun i hi K => ?_) (fun K => ?_)
 ·simp only [stQ99, Int.toNat_natCast]
  have d1 : inR (i : Int) a.length = true := inR_of (by omega) (by omega)
  have d2 : fits .i64 ((i : Int) + 1) = true := fits_ok (by omega) (by omega)
  obtain ⟨b, hb⟩ := fin_some (allFin_get hf hi)
  simp only [d1, d2, Bool.true_and, hb]
  rw [dec_true (by omega), cond_true]
  show cond ((b : Int) != b) _ _ = _
  rw [ne_dec, dec_true (p := (b : Int) = b) rfl, Bool.not_true, cond_false]; rfl
 ·simp only [stQ99]
  rw [dec_false (by omega), cond_false]
theorem law_rootSame {N : Nat} (hN : 1000 <= N) (n : Int) (xs x : List Fl) (hxs : Small N xs.length) (hx : Small N x.length) (fxs : allFin xs = true) (fx : allFin x = true) (k : Bool -> Bool) : sQ5 N n n xs x n n xs x k = k true := by
 unfold sQ5 GQ5
 rw [law_bits hN x hx fx]
 unfold sQ29 GQ29
 have e : ((n : Int) == n) = true := by simp
 rw [e, show ((true : Bool) == true) = true from rfl, cond_true, cond_true, cond_true, law_bits hN xs hxs fxs]
theorem law_row {N : Nat} (hN : 1000 <= N) (z : List Int) (nn : Int) (r w0 : List Int) (w1 w2 : Int) (xs x : List Fl) (hw0 : Small N w0.length) (hxs : Small N xs.length) (hx : Small N x.length) (hw : AllW xs) (k : Bool -> Bool) :
  JQ43 N (sQ6 N) (sQ8 N) (sQ4 N) (sQ7 N) (s_info_UpdateRoot N) (sQ5 N) (sQ13 N) (sQ17 N) (sQ12 N) (sQ11 N) (sQ10 N) (sQ3 N) (sQ0 N) (sQ18 N) (sQ27 N) (sQ2 N) (sQ1 N) z nn r w0 w1 w2 xs x k = k true := by
 unfold JQ43
 rw [law_Of64 _ hw0]
 have hf : ∀ b k, sQ7 N b k = k (canon b.toNat) := fun _ _ => rfl
 rw [hf, hf]
 have ha : ∀ k, sQ4 N k = k true := fun _ => rfl
 refine law_UpdateRoot hN nn nn xs x (of64 w0) _ _ hxs hx (by rw [of64_length]; exact hw0) _ _ (fun b => b = k true) (fun e he => ?_) (fun n t xs' x' e1 e2 hn hl hlx fxs fx hd hr => ?_)
 ·rw [ne_dec, dec_false he, Bool.not_false, cond_true, ha]
 ·subst e1
  exact law_grow hN hn hl hr.l1 hw fxs hd hr.g z n r w0 w1 w2 x k
theorem rv_inj {x y : Fl} (h : rv x = rv y) : vl x = vl y := by
 rcases Int.lt_trichotomy (vl x) (vl y) with k | k | k
 ·have := vl_rv k; rw [h] at this; exact absurd this Rat.lt_irrefl
 ·exact k
 ·have := vl_rv k; rw [h] at this; exact absurd this Rat.lt_irrefl
theorem zero_div {d : Fl} (hf : finF d = true) (h0 : 0 < rv d) : feq (fdiv (some 0) d) (some 0) = true := by
 have hz : finF (some 0) = true /\ rv (some 0) = 0 := rv_word0 false
 have hb : Bd (rv (some 0) / rv d) (Bg / 2) := by
  rw [hz.2, Rat.div_def, Rat.zero_mul]
  have : 0 < Bg := by unfold Bg; decide +kernel
  exact ⟨by grind, by grind⟩
 obtain ⟨g1, g2, -⟩ := div_near hz.1 hf (by grind) hb
 have g3 := g2 hz.2
 rw [feq_vl g1 hz.1, decide_eq_true_iff]
 exact rv_inj (by rw [g3, hz.2])
theorem sqrt_pos {r : Fl} (hf : finF r = true) (h : fle r (some 0) = false) : finF (fsqrt r) = true /\ 0 < rv (fsqrt r) := by
 have hz : finF (some 0) = true /\ rv (some 0) = 0 := rv_word0 false
 have h0 : 0 < rv r := by
  unfold fle at h
  rw [ford_vl hf hz.1] at h
  rcases Int.lt_trichotomy (vl r) (vl (some 0)) with k | k | k
  ·rw [Int.compare_eq_lt.2 k] at h; cases h
  ·rw [Int.compare_eq_eq.2 k] at h; cases h
  ·have := vl_rv k; rwa [hz.2] at this
 obtain ⟨a, b, -⟩ := sqrt_near hf h0
 exact ⟨a, b⟩
theorem law_InfoRoots {N : Nat} (hN : 1000 <= N) (z : List Int) (n : Int) (r w0 : List Int) (w1 w2 : Int) (hz : Small N z.length) (hr : Small N r.length) (hw0 : Small N w0.length) (hrw : ∀ a, a ∈ r -> a.toNat < 18446744073709551616) (k : Bool -> Bool) :
  sQ14 N z n r w0 w1 w2 k = k true := by
 unfold sQ14 GQ14
 have hroot : ∀ k, sQ6 N z n r k = k (of64 r) (of64 z) := fun k => by
  unfold sQ6 GQ6
  rw [law_Of64 _ hz, law_Of64 _ hr]
 rw [hroot]
 have hxs : Small N (of64 r).length := by rw [of64_length]; exact hr
 have hx : Small N (of64 z).length := by rw [of64_length]; exact hz
 have hw : AllW (of64 r) := of64_W hrw
 generalize of64 r = xs at *
 generalize of64 z = x at *
 have ha : ∀ k, sQ4 N k = k true := fun _ => rfl
 have hf : ∀ b k, sQ7 N b k = k (canon b.toNat) := fun _ _ => rfl
 obtain ⟨e, he, hb⟩ := law_ref17 hN n n xs x hx
 rw [he]
 by_cases h0 : ¬ e = 0
 ·rw [ne_dec, dec_false h0, Bool.not_false, cond_true, ha]
 have h0 : e = 0 := by simpa using h0
 rw [ne_dec, dec_true h0, Bool.not_true, cond_false]
 obtain ⟨b1, b2⟩ := hb h0
 have hmk : mkOk 8 n n = true := by unfold mkOk; simp; omega
 rw [hmk, Bool.true_and, hf, hf]
 have hJ0 := law_row hN z n r w0 w1 w2 xs x hw0 hxs hx hw k
 refine law_UpdateRoot hN n n xs x (List.replicate (Int.toNat n) (some 0)) _ _ hxs hx (by rw [List.length_replicate]; exact ⟨by omega, by omega⟩) _ _ (fun b => b = k true) (fun e he => ?_) (fun m t xs' x' e1 e2 hn hl hlx fxs fx hd hr => ?_)
 ·have : (e == 0) = false := by simpa using he
  rw [this, cond_false]; exact hJ0
 ·rw [show ((0 : Int) == 0) = true from rfl, cond_true]
  subst e1
  have hq := sqrt_pos hr.rf hr.rp
  have hnul : Nul (List.replicate (Int.toNat (m : Int)) (some 0)) (fsqrt (canon w1.toNat)) m := fun j hj => by
   have : (List.replicate (Int.toNat (m : Int)) (some 0 : Fl)).getD j none = some 0 := by
    rw [List.getD_eq_getElem?_getD, List.getElem?_replicate_of_lt (by omega)]; rfl
   rw [this]
   exact zero_div hq.1 hq.2
  obtain ⟨z1, z2, z3⟩ := hr.z hnul
  subst z1 z2
  rw [law_rootSame hN m xs' x' hxs hx fxs fx]
  have hfin := hr.f
  obtain ⟨b, hb⟩ := fin_some hfin
  rw [show ((!true) == false) = true from rfl, cond_true, hb]
  show sQ7 N w2 _ = _
  rw [hf, hf]
  rw [law_Sqrt, <- z3, hb]
  show cond ((b : Int) != b) _ _ = _
  rw [ne_dec, dec_true (p := (b : Int) = b) rfl, Bool.not_true, cond_false]
  exact hJ0
end Go.Proofs.YtjpaijnmiaoopaaGreatDoor
end
