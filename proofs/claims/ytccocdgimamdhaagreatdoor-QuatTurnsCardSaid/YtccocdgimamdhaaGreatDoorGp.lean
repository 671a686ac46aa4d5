/-
  THE PROGRAM's FUNCTIONS, as their meanings (written by program).
  Conditions: none.
-/
import Derived.Test.YtccocdgimamdhaaGreatDoorMachP
namespace Go.Proofs.YtccocdgimamdhaaGreatDoor
open Go Go.Mach
set_option linter.unusedVariables false

def strTab_11c1601c : List Int := [0, 1, 2, 2, 3, 3, 3, 3, 4, 4, 4, 4, 4, 4, 4, 4, 5, 5, 5, 5, 5, 5, 5, 5, 5, 5, 5, 5, 5, 5, 5, 5, 6, 6, 6, 6, 6, 6, 6, 6, 6, 6, 6, 6, 6, 6, 6, 6, 6, 6, 6, 6, 6, 6, 6, 6, 6, 6, 6, 6, 6, 6, 6, 6, 7, 7, 7, 7, 7, 7, 7, 7, 7, 7, 7, 7, 7, 7, 7, 7, 7, 7, 7, 7, 7, 7, 7, 7, 7, 7, 7, 7, 7, 7, 7, 7, 7, 7, 7, 7, 7, 7, 7, 7, 7, 7, 7, 7, 7, 7, 7, 7, 7, 7, 7, 7, 7, 7, 7, 7, 7, 7, 7, 7, 7, 7, 7, 7, 8, 8, 8, 8, 8, 8, 8, 8, 8, 8, 8, 8, 8, 8, 8, 8, 8, 8, 8, 8, 8, 8, 8, 8, 8, 8, 8, 8, 8, 8, 8, 8, 8, 8, 8, 8, 8, 8, 8, 8, 8, 8, 8, 8, 8, 8, 8, 8, 8, 8, 8, 8, 8, 8, 8, 8, 8, 8, 8, 8, 8, 8, 8, 8, 8, 8, 8, 8, 8, 8, 8, 8, 8, 8, 8, 8, 8, 8, 8, 8, 8, 8, 8, 8, 8, 8, 8, 8, 8, 8, 8, 8, 8, 8, 8, 8, 8, 8, 8, 8, 8, 8, 8, 8, 8, 8, 8, 8, 8, 8, 8, 8, 8, 8, 8, 8, 8, 8, 8, 8, 8, 8, 8, 8, 8, 8, 8, 8]

abbrev TS_q172 : Type := Nat -> (Int -> Bool) -> Bool

def s_q172 (N_ : Nat) : TS_q172 := fun n k => k n

abbrev TS_an_of : Type := (Int -> Int -> Int -> Bool) -> Bool

def G_an_of (N_ : Nat) (k0 : Int -> Int -> Int -> Bool) : Bool :=
  (k0 52 2047 1075)

def s_an_of (N_ : Nat) : TS_an_of := G_an_of N_

abbrev TS_q174 : Type := Int -> Int -> Int -> (Int -> Bool) -> Bool

def G_q174 (N_ : Nat) (f_0 : Int) (f_1 : Int) (f_2 : Int) (k0 : Int -> Bool) : Bool :=
  ((fits .i64 (f_1 + 1)) && ((decide (0 <= f_0)) && (k0 (IntKind.wrap .u64 ((IntKind.wrap .u64 (f_1 + 1)) * 2 ^ (min (Int.toNat f_0) 64))))))

def s_q174 (N_ : Nat) : TS_q174 := G_q174 N_

abbrev TS_q103 : Type := Int -> Int -> Int -> (Int -> Bool) -> Bool

def G_q103 (N_ : Nat) (f_0 : Int) (f_1 : Int) (f_2 : Int) (k0 : Int -> Bool) : Bool :=
  ((decide (0 <= f_0)) && (k0 (IntKind.wrap .u64 ((IntKind.wrap .u64 f_1) * 2 ^ (min (Int.toNat f_0) 64)))))

def s_q103 (N_ : Nat) : TS_q103 := G_q103 N_

abbrev TS_q102 : Type := Int -> Int -> Int -> Int -> (Bool -> Bool) -> Bool

def G_q102 (N_ : Nat) (S_q174 : TS_q174) (S_q103 : TS_q103) (b : Int) (f_0 : Int) (f_1 : Int) (f_2 : Int) (k0 : Bool -> Bool) : Bool :=
  (S_q174 f_0 f_1 f_2 (fun nr => (S_q103 f_0 f_1 f_2 (fun nr_1 => (k0 (decide ((bitsN .andNot .u64 b nr) > nr_1)))))))

def s_q102 (N_ : Nat) : TS_q102 := G_q102 N_ (s_q174 N_) (s_q103 N_)

abbrev TS_q83 : Type := Int -> Int -> Int -> (Int -> Bool) -> Bool

def G_q83 (N_ : Nat) (f_0 : Int) (f_1 : Int) (f_2 : Int) (k0 : Int -> Bool) : Bool :=
  ((decide (0 <= f_0)) && (k0 (IntKind.wrap .u64 (1 * 2 ^ (min (Int.toNat f_0) 64)))))

def s_q83 (N_ : Nat) : TS_q83 := G_q83 N_

abbrev TS_q185 : Type := Int -> Int -> Int -> (Int -> Bool) -> Bool

def G_q185 (N_ : Nat) (S_q103 : TS_q103) (S_q83 : TS_q83) (f_0 : Int) (f_1 : Int) (f_2 : Int) (k0 : Int -> Bool) : Bool :=
  (S_q103 f_0 f_1 f_2 (fun nr => (S_q83 f_0 f_1 f_2 (fun nr_1 => (k0 (bitsN .or .u64 (bitsN .or .u64 nr (Int.fdiv nr_1 (2 ^ 1))) (IntKind.wrap .u64 (Int.tdiv f_0 52))))))))

def s_q185 (N_ : Nat) : TS_q185 := G_q185 N_ (s_q103 N_) (s_q83 N_)

abbrev TS_q79 : Type := Int -> Int -> Int -> Int -> (Int -> Bool) -> Bool

def G_q79 (N_ : Nat) (S_q102 : TS_q102) (S_q185 : TS_q185) (b : Int) (f_0 : Int) (f_1 : Int) (f_2 : Int) (k0 : Int -> Bool) : Bool :=
  (S_q102 b f_0 f_1 f_2 (fun cr => (cond cr (S_q185 f_0 f_1 f_2 (fun nr => (k0 nr))) (k0 b))))

def s_q79 (N_ : Nat) : TS_q79 := G_q79 N_ (s_q102 N_) (s_q185 N_)

abbrev TS_q29 : Type := Int -> Int -> Int -> Int -> (Bool -> Int -> Int -> Bool) -> Bool

def G_q29 (N_ : Nat) (S_q79 : TS_q79) (S_q174 : TS_q174) (S_q83 : TS_q83) (b : Int) (f_0 : Int) (f_1 : Int) (f_2 : Int) (k0 : Bool -> Int -> Int -> Bool) : Bool :=
  (S_q79 b f_0 f_1 f_2 (fun nr => (S_q174 f_0 f_1 f_2 (fun nr_1 => ((decide (0 <= f_0)) && ((fits .i64 (bitsN .and .u64 (Int.fdiv nr (2 ^ (min (Int.toNat f_0) 64))) (IntKind.wrap .u64 f_1))) && (S_q83 f_0 f_1 f_2 (fun nr_2 => (k0 ((bitsN .and .u64 nr nr_1) != 0) (bitsN .and .u64 (Int.fdiv nr (2 ^ (min (Int.toNat f_0) 64))) (IntKind.wrap .u64 f_1)) (bitsN .and .u64 nr (IntKind.wrap .u64 (nr_2 - 1))))))))))))

def s_q29 (N_ : Nat) : TS_q29 := G_q29 N_ (s_q79 N_) (s_q174 N_) (s_q83 N_)

abbrev TS_q28 : Type := Int -> Int -> Int -> Int -> (Int -> Bool) -> Bool

def G_q28 (N_ : Nat) (S_q29 : TS_q29) (b : Int) (f_0 : Int) (f_1 : Int) (f_2 : Int) (k0 : Int -> Bool) : Bool :=
  (S_q29 b f_0 f_1 f_2 (fun cr nr nr_1 => (cond ((nr == f_1) == true) (cond (nr_1 != 0) (k0 1) (cond (nr == f_1) (k0 2) (cond ((nr == 0) == true) (cond (nr_1 == 0) (k0 3) (cond (nr == 0) (k0 4) (k0 5))) (cond (nr == 0) (k0 4) (k0 5))))) (cond (nr == f_1) (k0 2) (cond ((nr == 0) == true) (cond (nr_1 == 0) (k0 3) (cond (nr == 0) (k0 4) (k0 5))) (cond (nr == 0) (k0 4) (k0 5)))))))

def s_q28 (N_ : Nat) : TS_q28 := G_q28 N_ (s_q29 N_)

abbrev TS_q178 : Type := Nat -> (Int -> Bool) -> Bool

def G_q178 (N_ : Nat) (S_q172 : TS_q172) (S_an_of : TS_an_of) (S_q28 : TS_q28) (x : Nat) (k0 : Int -> Bool) : Bool :=
  (S_q172 x (fun nr => (S_an_of (fun nr_1 nr_2 nr_3 => (S_q28 nr nr_1 nr_2 nr_3 (fun nr_4 => (k0 nr_4)))))))

def s_q178 (N_ : Nat) : TS_q178 := G_q178 N_ (s_q172 N_) (s_an_of N_) (s_q28 N_)

abbrev TS_q95 : Type := Int -> (Fl -> Bool) -> Bool

def s_q95 (N_ : Nat) : TS_q95 := fun n k => k (canon n.toNat)

abbrev TS_q190 : Type := Nat -> (Fl -> Bool) -> Bool

def G_q190 (N_ : Nat) (S_q172 : TS_q172) (S_q95 : TS_q95) (x : Nat) (k0 : Fl -> Bool) : Bool :=
  (S_q172 x (fun nr => (S_q95 (bitsN .andNot .u64 nr 9223372036854775808) (fun xr => (k0 xr)))))

def s_q190 (N_ : Nat) : TS_q190 := G_q190 N_ (s_q172 N_) (s_q95 N_)

abbrev TS_q57 : Type := Int -> (Fl -> Bool) -> Bool

def G_q57 (N_ : Nat) (S_q95 : TS_q95) (b : Int) (k0 : Fl -> Bool) : Bool :=
  (S_q95 b (fun xr => (k0 xr)))

def s_q57 (N_ : Nat) : TS_q57 := G_q57 N_ (s_q95 N_)

abbrev TS_q46 : Type := Int -> Int -> Int -> Int -> (Fl -> Fl -> Fl -> Fl -> Bool) -> Bool

def G_q46 (N_ : Nat) (S_q57 : TS_q57) (q_0 : Int) (q_1 : Int) (q_2 : Int) (q_3 : Int) (k0 : Fl -> Fl -> Fl -> Fl -> Bool) : Bool :=
  (S_q57 q_0 (fun xr => (S_q57 q_1 (fun xr_1 => (S_q57 q_2 (fun xr_2 => (S_q57 q_3 (fun xr_3 => (k0 xr xr_1 xr_2 xr_3)))))))))

def s_q46 (N_ : Nat) : TS_q46 := G_q46 N_ (s_q57 N_)

abbrev TS_q50 : Type := Int -> Int -> Int -> (Fl -> Fl -> Fl -> Bool) -> Bool

def G_q50 (N_ : Nat) (S_q57 : TS_q57) (v_0 : Int) (v_1 : Int) (v_2 : Int) (k0 : Fl -> Fl -> Fl -> Bool) : Bool :=
  (S_q57 v_0 (fun xr => (S_q57 v_1 (fun xr_1 => (S_q57 v_2 (fun xr_2 => (k0 xr xr_1 xr_2)))))))

def s_q50 (N_ : Nat) : TS_q50 := G_q50 N_ (s_q57 N_)

abbrev TS_q13 : Type := List Fl -> (Bool -> Bool) -> Bool

def st_quat_finite_0 (N_ : Nat) (l_1 : List Fl) (t5 : Int) (e0 : Bool -> Bool) (e1 : Bool) : (Int) -> ((Int) -> Bool) -> Bool := fun v_ K => match v_ with
  | t6 => (cond (decide (t6 < t5)) ((inR t6 (List.length l_1)) && ((inR t6 (List.length l_1)) && (cond (!feq (fsub (List.getD l_1 (Int.toNat t6) none) (List.getD l_1 (Int.toNat t6) none)) (some 0)) (e0 false) ((fits .i64 (t6 + 1)) && (K (t6 + 1)))))) e1)

def G_q13 (N_ : Nat) (l : List Fl) (k0 : Bool -> Bool) : Bool :=
  (iterG N_ (st_quat_finite_0 N_ l (((List.length l) : Nat) : Int) (fun t2 => (k0 t2)) (k0 true)) 0)

def s_q13 (N_ : Nat) : TS_q13 := G_q13 N_

abbrev TS_q12 : Type := Fl -> Fl -> Fl -> Fl -> (Bool -> Bool) -> Bool

def G_q12 (N_ : Nat) (S_q13 : TS_q13) (qs_0 : Fl) (qs_1 : Fl) (qs_2 : Fl) (qs_3 : Fl) (k0 : Bool -> Bool) : Bool :=
  (S_q13 [qs_0, qs_1, qs_2, qs_3] (fun cr => (cond (!cr) (k0 false) (k0 true))))

def s_q12 (N_ : Nat) : TS_q12 := G_q12 (N_ + 24) (s_q13 N_)

abbrev TS_q49 : Type := Fl -> Fl -> Fl -> Fl -> Fl -> Fl -> (Fl -> Fl -> Fl -> Bool) -> Bool

def G_q49 (N_ : Nat) (a_0 : Fl) (a_1 : Fl) (a_2 : Fl) (b_0 : Fl) (b_1 : Fl) (b_2 : Fl) (k0 : Fl -> Fl -> Fl -> Bool) : Bool :=
  (k0 (fsub (fmul a_1 b_2) (fmul a_2 b_1)) (fsub (fmul a_2 b_0) (fmul a_0 b_2)) (fsub (fmul a_0 b_1) (fmul a_1 b_0)))

def s_q49 (N_ : Nat) : TS_q49 := G_q49 N_

abbrev TS_q121 : Type := Fl -> Fl -> Fl -> (Fl -> Fl -> Fl -> Int -> Bool) -> Bool

def G_q121 (N_ : Nat) (S_q13 : TS_q13) (v_0 : Fl) (v_1 : Fl) (v_2 : Fl) (k0 : Fl -> Fl -> Fl -> Int -> Bool) : Bool :=
  (S_q13 [v_0, v_1, v_2] (fun cr => (cond (!cr) (k0 (some 0) (some 0) (some 0) 5) (k0 v_0 v_1 v_2 0))))

def s_q121 (N_ : Nat) : TS_q121 := G_q121 N_ (s_q13 N_)

abbrev TS_q115 : Type := Fl -> Fl -> Fl -> Fl -> Fl -> Fl -> Fl -> (Fl -> Fl -> Fl -> Int -> Bool) -> Bool

def G_q115 (N_ : Nat) (S_q12 : TS_q12) (S_q13 : TS_q13) (S_q49 : TS_q49) (S_q121 : TS_q121) (q_0 : Fl) (q_1 : Fl) (q_2 : Fl) (q_3 : Fl) (v_0 : Fl) (v_1 : Fl) (v_2 : Fl) (k0 : Fl -> Fl -> Fl -> Int -> Bool) : Bool :=
  (S_q12 q_0 q_1 q_2 q_3 (fun cr => (cond ((!cr) == false) (S_q13 [v_0, v_1, v_2] (fun cr_1 => (cond (!cr_1) (k0 (some 0) (some 0) (some 0) 4) (S_q49 q_1 q_2 q_3 v_0 v_1 v_2 (fun xr xr_1 xr_2 => (S_q49 q_1 q_2 q_3 (fmul xr (some 4611686018427387904)) (fmul xr_1 (some 4611686018427387904)) (fmul xr_2 (some 4611686018427387904)) (fun xr_3 xr_4 xr_5 => (S_q121 (fadd (fadd v_0 (fmul q_0 (fmul xr (some 4611686018427387904)))) xr_3) (fadd (fadd v_1 (fmul q_0 (fmul xr_1 (some 4611686018427387904)))) xr_4) (fadd (fadd v_2 (fmul q_0 (fmul xr_2 (some 4611686018427387904)))) xr_5) (fun xr_6 xr_7 xr_8 nr => (k0 xr_6 xr_7 xr_8 nr)))))))))) (k0 (some 0) (some 0) (some 0) 4))))

def s_q115 (N_ : Nat) : TS_q115 := G_q115 (N_ + 24) (s_q12 N_) (s_q13 N_) (s_q49 N_) (s_q121 N_)

abbrev TS_q143 : Type := Fl -> Fl -> Fl -> Fl -> (List Fl -> Bool) -> Bool

def G_q143 (N_ : Nat) (q_0 : Fl) (q_1 : Fl) (q_2 : Fl) (q_3 : Fl) (k0 : List Fl -> Bool) : Bool :=
  (k0 [q_0, q_1, q_2, q_3])

def s_q143 (N_ : Nat) : TS_q143 := G_q143 N_

abbrev TS_q108 : Type := Fl -> (Int -> Bool) -> Bool

def s_q108 (N_ : Nat) : TS_q108 := fun x k => match x with | some b => k b | none => false

abbrev TS_q146 : Type := Fl -> (Int -> Bool) -> Bool

def G_q146 (N_ : Nat) (S_q108 : TS_q108) (x : Fl) (k0 : Int -> Bool) : Bool :=
  (cond (!feq x x) (k0 9221120237041090561) (S_q108 x (fun nr => (k0 nr))))

def s_q146 (N_ : Nat) : TS_q146 := G_q146 N_ (s_q108 N_)

abbrev TS_q163 : Type := Fl -> (Bool -> Int -> Int -> Bool) -> Bool

def G_q163 (N_ : Nat) (S_q146 : TS_q146) (x : Fl) (k0 : Bool -> Int -> Int -> Bool) : Bool :=
  (S_q146 x (fun nr => ((fits .i64 (Int.tmod (Int.fdiv nr (2 ^ 52)) 2048)) && (k0 ((Int.fdiv nr (2 ^ 63)) == 1) (Int.tmod (Int.fdiv nr (2 ^ 52)) 2048) (Int.tmod nr 4503599627370496)))))

def s_q163 (N_ : Nat) : TS_q163 := G_q163 N_ (s_q146 N_)

abbrev TS_q127 : Type := Int -> Int -> Int -> (Int -> Bool) -> Bool

def G_q127 (N_ : Nat) (exp : Int) (frac : Int) (most : Int) (k0 : Int -> Bool) : Bool :=
  (cond ((exp == most) == true) (cond (frac != 0) (k0 1) (cond (exp == most) (k0 2) (cond ((exp == 0) == true) (cond (frac == 0) (k0 3) (cond (exp == 0) (k0 4) (k0 5))) (cond (exp == 0) (k0 4) (k0 5))))) (cond (exp == most) (k0 2) (cond ((exp == 0) == true) (cond (frac == 0) (k0 3) (cond (exp == 0) (k0 4) (k0 5))) (cond (exp == 0) (k0 4) (k0 5)))))

def s_q127 (N_ : Nat) : TS_q127 := G_q127 N_

abbrev TS_q162 : Type := Fl -> (Int -> Bool) -> Bool

def G_q162 (N_ : Nat) (S_q163 : TS_q163) (S_q127 : TS_q127) (x : Fl) (k0 : Int -> Bool) : Bool :=
  (S_q163 x (fun cr nr nr_1 => (S_q127 nr nr_1 2047 (fun nr_2 => (k0 nr_2)))))

def s_q162 (N_ : Nat) : TS_q162 := G_q162 N_ (s_q163 N_) (s_q127 N_)

abbrev TS_q86 : Type := Fl -> (Bool -> Bool) -> Bool

def G_q86 (N_ : Nat) (S_q162 : TS_q162) (x : Fl) (k0 : Bool -> Bool) : Bool :=
  (S_q162 x (fun nr => (k0 (decide (nr > 2)))))

def s_q86 (N_ : Nat) : TS_q86 := G_q86 N_ (s_q162 N_)

abbrev TS_q52 : Type := List Fl -> (Bool -> Bool) -> Bool

def st_q227 (N_ : Nat) (S_q86 : TS_q86) (t5 : List Fl) (t6 : Int) (e0 : Bool -> Bool) (e1 : Bool) : (Int) -> ((Int) -> Bool) -> Bool := fun v_ K => match v_ with
  | t7 => (cond (decide (t7 < t6)) ((inR t7 (List.length t5)) && (S_q86 (List.getD t5 (Int.toNat t7) none) (fun cr => (cond (!cr) (e0 false) ((fits .i64 (t7 + 1)) && (K (t7 + 1))))))) e1)

def G_q52 (N_ : Nat) (S_q86 : TS_q86) (l : List Fl) (k0 : Bool -> Bool) : Bool :=
  (iterG N_ (st_q227 N_ S_q86 l (((List.length l) : Nat) : Int) (fun t2 => (k0 t2)) (k0 true)) 0)

def s_q52 (N_ : Nat) : TS_q52 := G_q52 N_ (s_q86 N_)

abbrev TS_q87 : Type := Fl -> Fl -> Fl -> Fl -> (Bool -> Bool) -> Bool

def G_q87 (N_ : Nat) (S_q143 : TS_q143) (S_q52 : TS_q52) (q_0 : Fl) (q_1 : Fl) (q_2 : Fl) (q_3 : Fl) (k0 : Bool -> Bool) : Bool :=
  (S_q143 q_0 q_1 q_2 q_3 (fun xsr => (S_q52 xsr (fun cr => (k0 cr)))))

def s_q87 (N_ : Nat) : TS_q87 := G_q87 N_ (s_q143 N_) (s_q52 N_)

abbrev TS_q14 : Type := Fl -> Fl -> Fl -> (Bool -> Bool) -> Bool

def G_q14 (N_ : Nat) (S_q52 : TS_q52) (v_0 : Fl) (v_1 : Fl) (v_2 : Fl) (k0 : Bool -> Bool) : Bool :=
  (S_q52 [v_0, v_1, v_2] (fun cr => (k0 cr)))

def s_q14 (N_ : Nat) : TS_q14 := G_q14 N_ (s_q52 N_)

abbrev TS_q23 : Type := Bool -> Bool -> (Int -> Bool) -> Bool

def G_q23 (N_ : Nat) (ok_0 : Bool) (ok_1 : Bool) (k0 : Int -> Bool) : Bool :=
  (cond (!ok_0) (k0 4) (cond (!ok_1) (k0 4) (k0 0)))

def s_q23 (N_ : Nat) : TS_q23 := G_q23 (N_ + 24)

abbrev TS_q66 : Type := Fl -> Fl -> Fl -> Fl -> Fl -> Fl -> (Fl -> Fl -> Fl -> Bool) -> Bool

def G_q66 (N_ : Nat) (a_0 : Fl) (a_1 : Fl) (a_2 : Fl) (b_0 : Fl) (b_1 : Fl) (b_2 : Fl) (k0 : Fl -> Fl -> Fl -> Bool) : Bool :=
  (k0 (fsub (fmul a_1 b_2) (fmul a_2 b_1)) (fsub (fmul a_2 b_0) (fmul a_0 b_2)) (fsub (fmul a_0 b_1) (fmul a_1 b_0)))

def s_q66 (N_ : Nat) : TS_q66 := G_q66 N_

abbrev TS_q71 : Type := Fl -> Fl -> Fl -> (Fl -> Fl -> Fl -> Int -> Bool) -> Bool

def G_q71 (N_ : Nat) (S_q14 : TS_q14) (v_0 : Fl) (v_1 : Fl) (v_2 : Fl) (k0 : Fl -> Fl -> Fl -> Int -> Bool) : Bool :=
  (S_q14 v_0 v_1 v_2 (fun cr => (cond (!cr) (k0 (some 0) (some 0) (some 0) 5) (k0 v_0 v_1 v_2 0))))

def s_q71 (N_ : Nat) : TS_q71 := G_q71 N_ (s_q14 N_)

abbrev TS_q157 : Type := Fl -> Fl -> Fl -> Fl -> Fl -> Fl -> Fl -> (Fl -> Fl -> Fl -> Int -> Bool) -> Bool

def G_q157 (N_ : Nat) (S_q87 : TS_q87) (S_q14 : TS_q14) (S_q23 : TS_q23) (S_q66 : TS_q66) (S_q71 : TS_q71) (q_0 : Fl) (q_1 : Fl) (q_2 : Fl) (q_3 : Fl) (v_0 : Fl) (v_1 : Fl) (v_2 : Fl) (k0 : Fl -> Fl -> Fl -> Int -> Bool) : Bool :=
  (S_q87 q_0 q_1 q_2 q_3 (fun cr => (S_q14 v_0 v_1 v_2 (fun cr_1 => (S_q23 cr cr_1 (fun nr => (cond (nr != 0) (k0 (some 0) (some 0) (some 0) nr) (S_q66 q_1 q_2 q_3 v_0 v_1 v_2 (fun xr xr_1 xr_2 => (S_q66 q_1 q_2 q_3 (fmul xr (some 4611686018427387904)) (fmul xr_1 (some 4611686018427387904)) (fmul xr_2 (some 4611686018427387904)) (fun xr_3 xr_4 xr_5 => (S_q71 (fadd (fadd v_0 (fmul q_0 (fmul xr (some 4611686018427387904)))) xr_3) (fadd (fadd v_1 (fmul q_0 (fmul xr_1 (some 4611686018427387904)))) xr_4) (fadd (fadd v_2 (fmul q_0 (fmul xr_2 (some 4611686018427387904)))) xr_5) (fun xr_6 xr_7 xr_8 nr_1 => (k0 xr_6 xr_7 xr_8 nr_1))))))))))))))

def s_q157 (N_ : Nat) : TS_q157 := G_q157 (N_ + 24) (s_q87 N_) (s_q14 N_) (s_q23 N_) (s_q66 N_) (s_q71 N_)

abbrev TS_q34 : Type := Fl -> Fl -> (Bool -> Bool) -> Bool

def G_q34 (N_ : Nat) (S_q108 : TS_q108) (S_q146 : TS_q146) (a : Fl) (b : Fl) (k0 : Bool -> Bool) : Bool :=
  (S_q108 a (fun nr => (S_q146 b (fun nr_1 => (k0 (nr == nr_1))))))

def s_q34 (N_ : Nat) : TS_q34 := G_q34 N_ (s_q108 N_) (s_q146 N_)

abbrev TS_q54 : Type := Fl -> Fl -> Fl -> Int -> Fl -> Fl -> Fl -> Int -> (Bool -> Bool) -> Bool

def G_q54 (N_ : Nat) (S_q34 : TS_q34) (a_0 : Fl) (a_1 : Fl) (a_2 : Fl) (e : Int) (b_0 : Fl) (b_1 : Fl) (b_2 : Fl) (n : Int) (k0 : Bool -> Bool) : Bool :=
  (S_q34 a_0 b_0 (fun cr => (cond (cr == true) (S_q34 a_1 b_1 (fun cr_1 => (cond (cr_1 == true) (S_q34 a_2 b_2 (fun cr_2 => (cond (cr_2 == true) (k0 (e == n)) (k0 false)))) (k0 false)))) (k0 false))))

def s_q54 (N_ : Nat) : TS_q54 := G_q54 N_ (s_q34 N_)

abbrev TS_q30 : Type := Fl -> Fl -> Fl -> Fl -> (Bool) -> Bool

def G_q30 (N_ : Nat) (q_0 : Fl) (q_1 : Fl) (q_2 : Fl) (q_3 : Fl) (k0 : Bool) : Bool :=
  k0

def s_q30 (N_ : Nat) : TS_q30 := G_q30 N_

abbrev TS_m_Abs : Type := Fl -> (Fl -> Bool) -> Bool

def s_m_Abs (N_ : Nat) : TS_m_Abs := fun x k => k (absF x)

abbrev TS_q140 : Type := Fl -> Int -> (Bool -> Bool) -> Bool

def G_q140 (N_ : Nat) (S_m_Abs : TS_m_Abs) (f : Fl) (sign : Int) (k0 : Bool -> Bool) : Bool :=
  (cond (sign == 0) (S_m_Abs f (fun xr => (k0 (fgt xr (some 9218868437227405311))))) (cond (decide (sign < 0)) (k0 (fgt (fneg f) (some 9218868437227405311))) (k0 (fgt f (some 9218868437227405311)))))

def s_q140 (N_ : Nat) : TS_q140 := G_q140 N_ (s_m_Abs N_)

abbrev TS_q147 : Type := Fl -> (Bool -> Bool) -> Bool

def G_q147 (N_ : Nat) (f : Fl) (k0 : Bool -> Bool) : Bool :=
  (k0 (!feq f f))

def s_q147 (N_ : Nat) : TS_q147 := G_q147 N_

abbrev TS_q70 : Type := Fl -> (Fl -> Int -> Bool) -> Bool

def G_q70 (N_ : Nat) (S_m_Abs : TS_m_Abs) (x : Fl) (k0 : Fl -> Int -> Bool) : Bool :=
  (S_m_Abs x (fun xr => (cond (flt xr (some 4503599627370496)) (k0 (fmul x (some 4841369599423283200)) (-52)) (k0 x 0))))

def s_q70 (N_ : Nat) : TS_q70 := G_q70 N_ (s_m_Abs N_)

abbrev TS_q186 : Type := Fl -> (Fl -> Int -> Bool) -> Bool

def G_q186 (N_ : Nat) (S_q140 : TS_q140) (S_q147 : TS_q147) (S_q70 : TS_q70) (S_q108 : TS_q108) (S_q95 : TS_q95) (f : Fl) (k0 : Fl -> Int -> Bool) : Bool :=
  (cond (feq f (some 0)) (k0 f 0) (S_q140 f 0 (fun cr => (cond (cr == false) (S_q147 f (fun cr_1 => (cond cr_1 (k0 f 0) (S_q70 f (fun xr nr => (S_q108 xr (fun nr_1 => ((fits .i64 (bitsN .and .u64 (Int.fdiv nr_1 (2 ^ 52)) 2047)) && ((fits .i64 ((bitsN .and .u64 (Int.fdiv nr_1 (2 ^ 52)) 2047) - 1023)) && ((fits .i64 (((bitsN .and .u64 (Int.fdiv nr_1 (2 ^ 52)) 2047) - 1023) + 1)) && ((fits .i64 (nr + (((bitsN .and .u64 (Int.fdiv nr_1 (2 ^ 52)) 2047) - 1023) + 1))) && (S_q95 (bitsN .or .u64 (bitsN .andNot .u64 nr_1 9218868437227405312) 4602678819172646912) (fun xr_1 => (k0 xr_1 (nr + (((bitsN .and .u64 (Int.fdiv nr_1 (2 ^ 52)) 2047) - 1023) + 1)))))))))))))))) (k0 f 0)))))

def s_q186 (N_ : Nat) : TS_q186 := G_q186 N_ (s_q140 N_) (s_q147 N_) (s_q70 N_) (s_q108 N_) (s_q95 N_)

abbrev TS_q100 : Type := Fl -> (Fl -> Int -> Bool) -> Bool

def G_q100 (N_ : Nat) (S_q186 : TS_q186) (f : Fl) (k0 : Fl -> Int -> Bool) : Bool :=
  (S_q186 f (fun xr nr => (k0 xr nr)))

def s_q100 (N_ : Nat) : TS_q100 := G_q100 N_ (s_q186 N_)

abbrev TS_q116 : Type := Fl -> Fl -> (Fl -> Bool) -> Bool

def G_q116 (N_ : Nat) (S_q108 : TS_q108) (S_q95 : TS_q95) (f : Fl) (sign : Fl) (k0 : Fl -> Bool) : Bool :=
  (S_q108 f (fun nr => (S_q108 sign (fun nr_1 => (S_q95 (bitsN .or .u64 (bitsN .andNot .u64 nr 9223372036854775808) (bitsN .and .u64 nr_1 9223372036854775808)) (fun xr => (k0 xr)))))))

def s_q116 (N_ : Nat) : TS_q116 := G_q116 N_ (s_q108 N_) (s_q95 N_)

abbrev TS_m_Inf : Type := Int -> (Fl -> Bool) -> Bool

def J_m_Inf_0 (N_ : Nat) (S_q95 : TS_q95) (sign : Int) (v : Int) (k0 : Fl -> Bool) : Bool :=
  (S_q95 v (fun xr => (k0 xr)))

def G_m_Inf (N_ : Nat) (S_q95 : TS_q95) (sign : Int) (k0 : Fl -> Bool) : Bool :=
  (cond (decide (sign >= 0)) (J_m_Inf_0 N_ S_q95 sign 9218868437227405312 k0) (J_m_Inf_0 N_ S_q95 sign 18442240474082181120 k0))

def s_m_Inf (N_ : Nat) : TS_m_Inf := G_m_Inf N_ (s_q95 N_)

abbrev TS_q182 : Type := Fl -> Int -> (Fl -> Bool) -> Bool

def J_q225 (N_ : Nat) (S_q140 : TS_q140) (S_q147 : TS_q147) (S_q70 : TS_q70) (S_q108 : TS_q108) (S_q116 : TS_q116) (S_m_Inf : TS_m_Inf) (S_q95 : TS_q95) (frac : Fl) (exp : Int) (exp_1 : Int) (x : Int) (m : Fl) (k0 : Fl -> Bool) : Bool :=
  ((fits .i64 (exp_1 + 1023)) && (S_q95 (bitsN .or .u64 (bitsN .andNot .u64 x 9218868437227405312) (IntKind.wrap .u64 ((IntKind.wrap .u64 (exp_1 + 1023)) * 2 ^ 52))) (fun xr_4 => (k0 (fmul m xr_4)))))

def G_q182 (N_ : Nat) (S_q140 : TS_q140) (S_q147 : TS_q147) (S_q70 : TS_q70) (S_q108 : TS_q108) (S_q116 : TS_q116) (S_m_Inf : TS_m_Inf) (S_q95 : TS_q95) (frac : Fl) (exp : Int) (k0 : Fl -> Bool) : Bool :=
  (cond (feq frac (some 0)) (k0 frac) (S_q140 frac 0 (fun cr => (cond (cr == false) (S_q147 frac (fun cr_1 => (cond cr_1 (k0 frac) (S_q70 frac (fun xr nr => ((fits .i64 (exp + nr)) && (S_q108 xr (fun nr_1 => ((fits .i64 (Int.fdiv nr_1 (2 ^ 52))) && ((fits .i64 ((bitsN .and .i64 (Int.fdiv nr_1 (2 ^ 52)) 2047) - 1023)) && ((fits .i64 ((exp + nr) + ((bitsN .and .i64 (Int.fdiv nr_1 (2 ^ 52)) 2047) - 1023))) && (cond (decide (((exp + nr) + ((bitsN .and .i64 (Int.fdiv nr_1 (2 ^ 52)) 2047) - 1023)) < (-1075))) (S_q116 (some 0) xr (fun xr_1 => (k0 xr_1))) (cond (decide (((exp + nr) + ((bitsN .and .i64 (Int.fdiv nr_1 (2 ^ 52)) 2047) - 1023)) > 1023)) (cond (flt xr (some 0)) (S_m_Inf (-1) (fun xr_2 => (k0 xr_2))) (S_m_Inf 1 (fun xr_3 => (k0 xr_3)))) (cond (decide (((exp + nr) + ((bitsN .and .i64 (Int.fdiv nr_1 (2 ^ 52)) 2047) - 1023)) < (-1022))) ((fits .i64 (((exp + nr) + ((bitsN .and .i64 (Int.fdiv nr_1 (2 ^ 52)) 2047) - 1023)) + 53)) && (J_q225 N_ S_q140 S_q147 S_q70 S_q108 S_q116 S_m_Inf S_q95 frac exp (((exp + nr) + ((bitsN .and .i64 (Int.fdiv nr_1 (2 ^ 52)) 2047) - 1023)) + 53) nr_1 (some 4368491638549381120) k0)) (J_q225 N_ S_q140 S_q147 S_q70 S_q108 S_q116 S_m_Inf S_q95 frac exp ((exp + nr) + ((bitsN .and .i64 (Int.fdiv nr_1 (2 ^ 52)) 2047) - 1023)) nr_1 (some 4607182418800017408) k0))))))))))))))) (k0 frac)))))

def s_q182 (N_ : Nat) : TS_q182 := G_q182 N_ (s_q140 N_) (s_q147 N_) (s_q70 N_) (s_q108 N_) (s_q116 N_) (s_m_Inf N_) (s_q95 N_)

abbrev TS_q118 : Type := Fl -> Int -> (Fl -> Bool) -> Bool

def G_q118 (N_ : Nat) (S_q182 : TS_q182) (frac : Fl) (exp : Int) (k0 : Fl -> Bool) : Bool :=
  (S_q182 frac exp (fun xr => (k0 xr)))

def s_q118 (N_ : Nat) : TS_q118 := G_q118 N_ (s_q182 N_)

abbrev TS_q196 : Type := Fl -> (Fl -> Bool) -> Bool

def s_q196 (N_ : Nat) : TS_q196 := fun x k => k (fsqrt x)

abbrev TS_q120 : Type := Fl -> (Fl -> Bool) -> Bool

def G_q120 (N_ : Nat) (S_q196 : TS_q196) (x : Fl) (k0 : Fl -> Bool) : Bool :=
  (S_q196 x (fun xr => (k0 xr)))

def s_q120 (N_ : Nat) : TS_q120 := G_q120 N_ (s_q196 N_)

abbrev TS_q160 : Type := Fl -> Fl -> Fl -> Fl -> (Bool) -> Bool

def G_q160 (N_ : Nat) (l_0 : Fl) (l_1 : Fl) (l_2 : Fl) (l_3 : Fl) (k0 : Bool) : Bool :=
  k0

def s_q160 (N_ : Nat) : TS_q160 := G_q160 N_

abbrev TS_q63 : Type := Fl -> Fl -> Fl -> Fl -> (Fl -> Fl -> Fl -> Fl -> Int -> Bool) -> Bool

def G_q63 (N_ : Nat) (S_q12 : TS_q12) (S_q30 : TS_q30) (S_m_Abs : TS_m_Abs) (S_q100 : TS_q100) (S_q118 : TS_q118) (S_q120 : TS_q120) (S_q160 : TS_q160) (q_0 : Fl) (q_1 : Fl) (q_2 : Fl) (q_3 : Fl) (k0 : Fl -> Fl -> Fl -> Fl -> Int -> Bool) : Bool :=
  (S_q12 q_0 q_1 q_2 q_3 (fun cr => (cond (!cr) (k0 (some 0) (some 0) (some 0) (some 0) 4) (S_q30 q_0 q_1 q_2 q_3 (S_m_Abs q_0 (fun xr => (S_m_Abs q_1 (fun xr_1 => (S_m_Abs q_2 (fun xr_2 => (S_m_Abs q_3 (fun xr_3 => (cond (feq (fmm true (fmm true (fmm true (fmm true (some 0) xr) xr_1) xr_2) xr_3) (some 0)) (k0 (some 0) (some 0) (some 0) (some 0) 120) (S_q100 (fmm true (fmm true (fmm true (fmm true (some 0) xr) xr_1) xr_2) xr_3) (fun xr_4 nr => ((fits .i64 (1 - nr)) && (S_q118 q_0 (1 - nr) (fun xr_5 => ((fits .i64 (1 - nr)) && (S_q118 q_1 (1 - nr) (fun xr_6 => ((fits .i64 (1 - nr)) && (S_q118 q_2 (1 - nr) (fun xr_7 => ((fits .i64 (1 - nr)) && (S_q118 q_3 (1 - nr) (fun xr_8 => (S_q120 (fadd (fadd (fadd (fadd (some 0) (fmul xr_5 xr_5)) (fmul xr_6 xr_6)) (fmul xr_7 xr_7)) (fmul xr_8 xr_8)) (fun xr_9 => (S_q160 (fdiv xr_5 xr_9) (fdiv xr_6 xr_9) (fdiv xr_7 xr_9) (fdiv xr_8 xr_9) (k0 (fdiv xr_5 xr_9) (fdiv xr_6 xr_9) (fdiv xr_7 xr_9) (fdiv xr_8 xr_9) 0)))))))))))))))))))))))))))))))

def s_q63 (N_ : Nat) : TS_q63 := G_q63 (N_ + 24) (s_q12 N_) (s_q30 N_) (s_m_Abs N_) (s_q100 N_) (s_q118 N_) (s_q120 N_) (s_q160 N_)

abbrev TS_q129 : Type := Fl -> Fl -> Fl -> Fl -> Fl -> Fl -> Fl -> Fl -> (Bool -> Bool) -> Bool

def G_q129 (N_ : Nat) (S_q13 : TS_q13) (qs_0 : Fl) (qs_1 : Fl) (qs_2 : Fl) (qs_3 : Fl) (qs_4 : Fl) (qs_5 : Fl) (qs_6 : Fl) (qs_7 : Fl) (k0 : Bool -> Bool) : Bool :=
  (S_q13 [qs_0, qs_1, qs_2, qs_3] (fun cr => (cond (!cr) (k0 false) (S_q13 [qs_4, qs_5, qs_6, qs_7] (fun cr_1 => (cond (!cr_1) (k0 false) (k0 true)))))))

def s_q129 (N_ : Nat) : TS_q129 := G_q129 (N_ + 24) (s_q13 N_)

abbrev TS_q181 : Type := Fl -> Fl -> Fl -> Fl -> Fl -> Fl -> Fl -> Fl -> (Fl -> Fl -> Fl -> Fl -> Bool) -> Bool

def G_q181 (N_ : Nat) (a_0 : Fl) (a_1 : Fl) (a_2 : Fl) (a_3 : Fl) (b_0 : Fl) (b_1 : Fl) (b_2 : Fl) (b_3 : Fl) (k0 : Fl -> Fl -> Fl -> Fl -> Bool) : Bool :=
  (k0 (fsub (fsub (fsub (fmul a_0 b_0) (fmul a_1 b_1)) (fmul a_2 b_2)) (fmul a_3 b_3)) (fsub (fadd (fadd (fmul a_0 b_1) (fmul a_1 b_0)) (fmul a_2 b_3)) (fmul a_3 b_2)) (fadd (fadd (fsub (fmul a_0 b_2) (fmul a_1 b_3)) (fmul a_2 b_0)) (fmul a_3 b_1)) (fadd (fsub (fadd (fmul a_0 b_3) (fmul a_1 b_2)) (fmul a_2 b_1)) (fmul a_3 b_0)))

def s_q181 (N_ : Nat) : TS_q181 := G_q181 N_

abbrev TS_q161 : Type := Fl -> Fl -> Fl -> Fl -> (Fl -> Fl -> Fl -> Fl -> Int -> Bool) -> Bool

def G_q161 (N_ : Nat) (S_q12 : TS_q12) (q_0 : Fl) (q_1 : Fl) (q_2 : Fl) (q_3 : Fl) (k0 : Fl -> Fl -> Fl -> Fl -> Int -> Bool) : Bool :=
  (S_q12 q_0 q_1 q_2 q_3 (fun cr => (cond (!cr) (k0 (some 0) (some 0) (some 0) (some 0) 5) (k0 q_0 q_1 q_2 q_3 0))))

def s_q161 (N_ : Nat) : TS_q161 := G_q161 N_ (s_q12 N_)

abbrev TS_q180 : Type := Fl -> Fl -> Fl -> Fl -> Fl -> Fl -> Fl -> Fl -> (Fl -> Fl -> Fl -> Fl -> Int -> Bool) -> Bool

def G_q180 (N_ : Nat) (S_q129 : TS_q129) (S_q181 : TS_q181) (S_q161 : TS_q161) (a_0 : Fl) (a_1 : Fl) (a_2 : Fl) (a_3 : Fl) (b_0 : Fl) (b_1 : Fl) (b_2 : Fl) (b_3 : Fl) (k0 : Fl -> Fl -> Fl -> Fl -> Int -> Bool) : Bool :=
  (S_q129 a_0 a_1 a_2 a_3 b_0 b_1 b_2 b_3 (fun cr => (cond (!cr) (k0 (some 0) (some 0) (some 0) (some 0) 4) (S_q181 a_0 a_1 a_2 a_3 b_0 b_1 b_2 b_3 (fun xr xr_1 xr_2 xr_3 => (S_q161 xr xr_1 xr_2 xr_3 (fun xr_4 xr_5 xr_6 xr_7 nr => (k0 xr_4 xr_5 xr_6 xr_7 nr))))))))

def s_q180 (N_ : Nat) : TS_q180 := G_q180 N_ (s_q129 N_) (s_q181 N_) (s_q161 N_)

abbrev TS_q159 : Type := Fl -> (Int -> Bool) -> Bool

def s_q159 (N_ : Nat) : TS_q159 := fun x k => k (clsF x)

abbrev TS_q97 : Type := List Fl -> (Bool -> Bool) -> Bool

def st_an_Finite_0 (N_ : Nat) (S_q159 : TS_q159) (t6 : List Fl) (t7 : Int) (e0 : Bool -> Bool) (e1 : Bool) : (Int) -> ((Int) -> Bool) -> Bool := fun v_ K => match v_ with
  | t8 => (cond (decide (t8 < t7)) ((inR t8 (List.length t6)) && (S_q159 (List.getD t6 (Int.toNat t8) none) (fun nr => (cond ((nr == 1) == false) (cond (nr == 2) (e0 false) ((fits .i64 (t8 + 1)) && (K (t8 + 1)))) (e0 false))))) e1)

def G_q97 (N_ : Nat) (S_q159 : TS_q159) (l : List Fl) (k0 : Bool -> Bool) : Bool :=
  (iterG N_ (st_an_Finite_0 N_ S_q159 l (((List.length l) : Nat) : Int) (fun t2 => (k0 t2)) (k0 true)) 0)

def s_q97 (N_ : Nat) : TS_q97 := G_q97 N_ (s_q159 N_)

abbrev TS_q7 : Type := Int -> (Int -> Bool) -> Bool

def G_q7 (N_ : Nat) (x : Int) (k0 : Int -> Bool) : Bool :=
  (cond (x == 0) (k0 64) ((inR (Int.fdiv (IntKind.wrap .u64 ((bitsN .and .u64 x (IntKind.wrap .u64 (0 - x))) * 285870213051353865)) (2 ^ 58)) 64) && ((fits .i64 (List.getD tab64 (Int.toNat (Int.fdiv (IntKind.wrap .u64 ((bitsN .and .u64 x (IntKind.wrap .u64 (0 - x))) * 285870213051353865)) (2 ^ 58))) 0)) && (k0 (List.getD tab64 (Int.toNat (Int.fdiv (IntKind.wrap .u64 ((bitsN .and .u64 x (IntKind.wrap .u64 (0 - x))) * 285870213051353865)) (2 ^ 58))) 0)))))

def s_q7 (N_ : Nat) : TS_q7 := G_q7 N_

abbrev TS_q75 : Type := Int -> Int -> Int -> Int -> (Bool -> Int -> Int -> Int -> Bool) -> Bool

def J_q192 (N_ : Nat) (S_q29 : TS_q29) (S_q28 : TS_q28) (S_q83 : TS_q83) (S_q7 : TS_q7) (b : Int) (f_0 : Int) (f_1 : Int) (f_2 : Int) (p : Bool) (p_1 : Int) (p_2 : Int) (k0 : Bool -> Int -> Int -> Int -> Bool) : Bool :=
  (S_q7 p_1 (fun nr_4 => ((decide (0 <= nr_4)) && ((fits .i64 (p_2 + nr_4)) && (k0 p (Int.fdiv p_1 (2 ^ (min (Int.toNat nr_4) 64))) (p_2 + nr_4) 0)))))

def G_q75 (N_ : Nat) (S_q29 : TS_q29) (S_q28 : TS_q28) (S_q83 : TS_q83) (S_q7 : TS_q7) (b : Int) (f_0 : Int) (f_1 : Int) (f_2 : Int) (k0 : Bool -> Int -> Int -> Int -> Bool) : Bool :=
  (S_q29 b f_0 f_1 f_2 (fun cr nr nr_1 => ((fits .i64 (nr - f_2)) && (S_q28 b f_0 f_1 f_2 (fun nr_2 => (cond (nr_2 == 1) (k0 false 0 0 4) (cond (nr_2 == 2) (k0 false 0 0 4) (cond (nr_2 == 3) (k0 cr 0 0 0) (cond (nr_2 == 4) ((fits .i64 ((nr - f_2) + 1)) && (J_q192 N_ S_q29 S_q28 S_q83 S_q7 b f_0 f_1 f_2 cr nr_1 ((nr - f_2) + 1) k0)) (S_q83 f_0 f_1 f_2 (fun nr_3 => (J_q192 N_ S_q29 S_q28 S_q83 S_q7 b f_0 f_1 f_2 cr (bitsN .or .u64 nr_1 nr_3) (nr - f_2) k0))))))))))))

def s_q75 (N_ : Nat) : TS_q75 := G_q75 N_ (s_q29 N_) (s_q28 N_) (s_q83 N_) (s_q7 N_)

abbrev TS_q179 : Type := Fl -> (Bool -> Int -> Int -> Int -> Bool) -> Bool

def G_q179 (N_ : Nat) (S_q108 : TS_q108) (S_an_of : TS_an_of) (S_q75 : TS_q75) (x : Fl) (k0 : Bool -> Int -> Int -> Int -> Bool) : Bool :=
  (S_q108 x (fun nr => (S_an_of (fun nr_1 nr_2 nr_3 => (S_q75 nr nr_1 nr_2 nr_3 (fun cr nr_4 nr_5 nr_6 => (k0 cr nr_4 nr_5 nr_6)))))))

def s_q179 (N_ : Nat) : TS_q179 := G_q179 N_ (s_q108 N_) (s_an_of N_) (s_q75 N_)

abbrev TS_q1 : Type := List Int -> (Nat -> Nat -> Bool) -> Bool

def st_big_norm_w_0 (N_ : Nat) (x : List Int) (e0 : Int -> Bool) : (Int) -> ((Int) -> Bool) -> Bool := fun v_ K => match v_ with
  | n => (cond ((decide (n > 0)) == true) ((fits .i64 (n - 1)) && ((inR (n - 1) (List.length x)) && ((decide ((Int.toNat (n - 1)) < (List.length x))) && (cond ((List.getD x (Int.toNat (n - 1)) 0) == 0) ((fits .i64 (n - 1)) && (K (n - 1))) (e0 n))))) (e0 n))

def G_q1 (N_ : Nat) (b : List Int) (k0 : Nat -> Nat -> Bool) : Bool :=
  (iterG N_ (st_big_norm_w_0 N_ b (fun n_1 => ((decide (0 <= n_1 /\ n_1 <= (((List.length b) : Nat) : Int))) && (k0 0 ((Int.toNat n_1) - 0))))) (((List.length b) : Nat) : Int))

def s_q1 (N_ : Nat) : TS_q1 := G_q1 N_

abbrev TS_q150 : Type := Int -> (List Int -> Bool) -> Bool

def G_q150 (N_ : Nat) (S_q1 : TS_q1) (n : Int) (k0 : List Int -> Bool) : Bool :=
  (S_q1 [n] (fun mr mr_1 => ((decide ((mr + mr_1) <= (List.length [n]))) && (k0 (List.take mr_1 (List.drop mr [n]))))))

def s_q150 (N_ : Nat) : TS_q150 := G_q150 N_ (s_q1 N_)

abbrev TS_q0 : Type := Bool -> List Int -> Bool -> (Bool -> Bool) -> Bool

def G_q0 (N_ : Nat) (neg : Bool) (abs : List Int) (b : Bool) (k0 : Bool -> Bool) : Bool :=
  (cond (neg == true) (k0 (decide ((((List.length abs) : Nat) : Int) > 0))) (k0 false))

def s_q0 (N_ : Nat) : TS_q0 := G_q0 N_

abbrev TS_q56 : Type := Int -> Bool -> (Bool -> List Int -> Bool) -> Bool

def G_q56 (N_ : Nat) (S_q150 : TS_q150) (S_q0 : TS_q0) (n : Int) (b : Bool) (k0 : Bool -> List Int -> Bool) : Bool :=
  (S_q150 n (fun nsr => (S_q0 false nsr b (fun cr => (k0 cr nsr)))))

def s_q56 (N_ : Nat) : TS_q56 := G_q56 N_ (s_q150 N_) (s_q0 N_)

abbrev TS_q85 : Type := List Int -> (List Int -> Bool) -> Bool

def G_q85 (N_ : Nat) (x : List Int) (k0 : List Int -> Bool) : Bool :=
  ((decide ((List.length ([] ++ x)) * 8 <= 140737488355328)) && (k0 ([] ++ x)))

def s_q85 (N_ : Nat) : TS_q85 := G_q85 N_

abbrev TS_q32 : Type := Bool -> List Int -> Bool -> List Int -> (Bool -> Bool) -> Bool

def G_q32 (N_ : Nat) (neg : Bool) (abs : List Int) (b : Bool) (b_1 : List Int) (k0 : Bool -> Bool) : Bool :=
  (cond (neg == true) (k0 (decide ((((List.length abs) : Nat) : Int) > 0))) (k0 false))

def s_q32 (N_ : Nat) : TS_q32 := G_q32 N_

abbrev TS_q26 : Type := Bool -> List Int -> (Bool -> List Int -> Bool) -> Bool

def G_q26 (N_ : Nat) (S_q85 : TS_q85) (S_q32 : TS_q32) (b : Bool) (b_1 : List Int) (k0 : Bool -> List Int -> Bool) : Bool :=
  (S_q85 b_1 (fun nsr => (S_q32 (!b) nsr b b_1 (fun cr => (k0 cr nsr)))))

def s_q26 (N_ : Nat) : TS_q26 := G_q26 N_ (s_q85 N_) (s_q32 N_)

abbrev TS_q171 : Type := Fl -> (Int -> Bool -> List Int -> Bool) -> Bool

def G_q171 (N_ : Nat) (S_q179 : TS_q179) (S_q56 : TS_q56) (S_q26 : TS_q26) (x : Fl) (k0 : Int -> Bool -> List Int -> Bool) : Bool :=
  (S_q179 x (fun cr nr nr_1 nr_2 => (S_q56 nr false (fun cr_1 nsr => (cond cr (S_q26 cr_1 nsr (fun cr_2 nsr_1 => (k0 nr_1 cr_2 nsr_1))) (k0 nr_1 cr_1 nsr))))))

def s_q171 (N_ : Nat) : TS_q171 := G_q171 N_ (s_q179 N_) (s_q56 N_) (s_q26 N_)

abbrev TS_q131 : Type := Int -> Int -> (Int -> Int -> Bool) -> Bool

def G_q131 (N_ : Nat) (x : Int) (y : Int) (k0 : Int -> Int -> Bool) : Bool :=
  (k0 (IntKind.wrap .u64 ((IntKind.wrap .u64 ((IntKind.wrap .u64 ((Int.fdiv x (2 ^ 32)) * (Int.fdiv y (2 ^ 32)))) + (Int.fdiv (IntKind.wrap .u64 ((IntKind.wrap .u64 ((Int.fdiv x (2 ^ 32)) * (bitsN .and .u64 y 4294967295))) + (Int.fdiv (IntKind.wrap .u64 ((bitsN .and .u64 x 4294967295) * (bitsN .and .u64 y 4294967295))) (2 ^ 32)))) (2 ^ 32)))) + (Int.fdiv (IntKind.wrap .u64 ((bitsN .and .u64 (IntKind.wrap .u64 ((IntKind.wrap .u64 ((Int.fdiv x (2 ^ 32)) * (bitsN .and .u64 y 4294967295))) + (Int.fdiv (IntKind.wrap .u64 ((bitsN .and .u64 x 4294967295) * (bitsN .and .u64 y 4294967295))) (2 ^ 32)))) 4294967295) + (IntKind.wrap .u64 ((bitsN .and .u64 x 4294967295) * (Int.fdiv y (2 ^ 32)))))) (2 ^ 32)))) (IntKind.wrap .u64 (x * y)))

def s_q131 (N_ : Nat) : TS_q131 := G_q131 N_

abbrev TS_q74 : Type := Int -> Int -> Int -> (Int -> Int -> Bool) -> Bool

def s_q74 (N_ : Nat) : TS_q74 := fun x y c k => (decide (c.toNat <= 1)) && k (((x.toNat + y.toNat + c.toNat) % 18446744073709551616 : Nat) : Int) (((x.toNat + y.toNat + c.toNat) / 18446744073709551616 : Nat) : Int)

abbrev TS_q123 : Type := Int -> Int -> Int -> Int -> (Int -> Int -> Bool) -> Bool

def G_q123 (N_ : Nat) (S_q131 : TS_q131) (S_q74 : TS_q74) (a : Int) (b : Int) (c : Int) (d : Int) (k0 : Int -> Int -> Bool) : Bool :=
  (S_q131 a b (fun nr nr_1 => (S_q74 nr_1 c 0 (fun nr_2 nr_3 => (S_q74 nr_2 d 0 (fun nr_4 nr_5 => (k0 (IntKind.wrap .u64 ((IntKind.wrap .u64 (nr + nr_3)) + nr_5)) nr_4)))))))

def s_q123 (N_ : Nat) : TS_q123 := G_q123 N_ (s_q131 N_) (s_q74 N_)

abbrev TS_q155 : Type := List Int -> List Int -> (List Int -> Bool) -> Bool

def st_big_times_2 (N_ : Nat) (S_q123 : TS_q123) (S_q1 : TS_q1) (y_2 : List Int) (i : Int) (a : Int) (t25_1 : List Int) (t26_1 : Int) (t27_1 : Int) (t32 : List Int) (t33 : Int) (e0 : Int -> List Int -> Bool) : (Int × Int × List Int) -> ((Int × Int × List Int) -> Bool) -> Bool := fun v_ K => match v_ with
  | (carry, t34, z_1) => (cond (decide (t34 < t33)) ((inR t34 (List.length t32)) && ((fits .i64 (i + t34)) && ((fits .i64 (i + t34)) && ((inR (i + t34) (List.length z_1)) && ((decide ((Int.toNat (i + t34)) < (List.length z_1))) && (S_q123 a (List.getD t32 (Int.toNat t34) 0) (List.getD z_1 (Int.toNat (i + t34)) 0) carry (fun nr nr_1 => ((inR (i + t34) (List.length z_1)) && ((decide ((Int.toNat (i + t34)) < (List.length z_1))) && ((fits .i64 (t34 + 1)) && (K (nr, (t34 + 1), (List.set z_1 (Int.toNat (i + t34)) nr_1))))))))))))) (e0 carry z_1))

def st_big_times_0 (N_ : Nat) (S_q123 : TS_q123) (S_q1 : TS_q1) (y_1 : List Int) (t25 : List Int) (t26 : Int) (e0 : List Int -> Bool) : (Int × List Int) -> ((Int × List Int) -> Bool) -> Bool := fun v_ K => match v_ with
  | (t27, z) => (cond (decide (t27 < t26)) ((inR t27 (List.length t25)) && (iterG N_ (st_big_times_2 N_ S_q123 S_q1 y_1 t27 (List.getD t25 (Int.toNat t27) 0) t25 t26 t27 y_1 (((List.length y_1) : Nat) : Int) (fun carry_1 z_2 => ((fits .i64 (t27 + (((List.length y_1) : Nat) : Int))) && ((inR (t27 + (((List.length y_1) : Nat) : Int)) (List.length z_2)) && ((decide ((Int.toNat (t27 + (((List.length y_1) : Nat) : Int))) < (List.length z_2))) && ((fits .i64 (t27 + 1)) && (K ((t27 + 1), (List.set z_2 (Int.toNat (t27 + (((List.length y_1) : Nat) : Int))) carry_1))))))))) (0, 0, z))) (e0 z))

def G_q155 (N_ : Nat) (S_q123 : TS_q123) (S_q1 : TS_q1) (x : List Int) (y : List Int) (k0 : List Int -> Bool) : Bool :=
  (cond (((((List.length x) : Nat) : Int) == 0) == false) (cond ((((List.length y) : Nat) : Int) == 0) (k0 []) ((fits .i64 ((((List.length x) : Nat) : Int) + (((List.length y) : Nat) : Int))) && ((mkOk 8 ((((List.length x) : Nat) : Int) + (((List.length y) : Nat) : Int)) ((((List.length x) : Nat) : Int) + (((List.length y) : Nat) : Int))) && (iterG N_ (st_big_times_0 N_ S_q123 S_q1 y x (((List.length x) : Nat) : Int) (fun z_3 => (S_q1 z_3 (fun mr mr_1 => ((decide ((mr + mr_1) <= (List.length z_3))) && (k0 (List.take mr_1 (List.drop mr z_3)))))))) (0, (List.replicate (Int.toNat ((((List.length x) : Nat) : Int) + (((List.length y) : Nat) : Int))) (0 : Int))))))) (k0 []))

def s_q155 (N_ : Nat) : TS_q155 := G_q155 N_ (s_q123 N_) (s_q1 N_)

abbrev TS_q55 : Type := Bool -> Bool -> List Int -> Bool -> List Int -> (Bool -> List Int -> Bool) -> Bool

def G_q55 (N_ : Nat) (S_q155 : TS_q155) (S_q0 : TS_q0) (b : Bool) (b_1 : Bool) (b_2 : List Int) (b_3 : Bool) (b_4 : List Int) (k0 : Bool -> List Int -> Bool) : Bool :=
  (S_q155 b_2 b_4 (fun nsr => (S_q0 (b_1 != b_3) nsr b (fun cr => (k0 cr nsr)))))

def s_q55 (N_ : Nat) : TS_q55 := G_q55 N_ (s_q155 N_) (s_q0 N_)

abbrev TS_q20 : Type := Int -> Int -> Bool -> List Int -> Bool -> List Int -> (Int -> Bool -> List Int -> Bool) -> Bool

def G_q20 (N_ : Nat) (S_q55 : TS_q55) (x : Int) (y : Int) (b : Bool) (b_1 : List Int) (b_2 : Bool) (b_3 : List Int) (k0 : Int -> Bool -> List Int -> Bool) : Bool :=
  (S_q55 false b b_1 b_2 b_3 (fun cr nsr => ((fits .i64 (x + y)) && (k0 (x + y) cr nsr))))

def s_q20 (N_ : Nat) : TS_q20 := G_q20 N_ (s_q55 N_)

abbrev TS_q84 : Type := Bool -> (Int -> List Int -> Bool) -> Bool

def G_q84 (N_ : Nat) (b : Bool) (k0 : Int -> List Int -> Bool) : Bool :=
  (cond b (k0 (-1) []) (k0 0 []))

def s_q84 (N_ : Nat) : TS_q84 := G_q84 N_

abbrev TS_q4 : Type := Bool -> List Int -> (Int -> Bool) -> Bool

def G_q4 (N_ : Nat) (b : Bool) (b_1 : List Int) (k0 : Int -> Bool) : Bool :=
  (cond b (k0 (-1)) (cond ((((List.length b_1) : Nat) : Int) == 0) (k0 0) (k0 1)))

def s_q4 (N_ : Nat) : TS_q4 := G_q4 N_

abbrev TS_q124 : Type := List Int -> Int -> (List Int -> Bool) -> Bool

def st_big_left_0 (N_ : Nat) (S_q1 : TS_q1) (words : Int) (rest : Int) (t24 : List Int) (t25 : Int) (e0 : List Int -> Bool) : (Int × List Int) -> ((Int × List Int) -> Bool) -> Bool := fun v_ K => match v_ with
  | (t26, z) => (cond (decide (t26 < t25)) ((inR t26 (List.length t24)) && ((fits .i64 (words + t26)) && ((inR (words + t26) (List.length z)) && ((decide ((Int.toNat (words + t26)) < (List.length z))) && ((decide (0 <= rest)) && ((inR (words + t26) (List.length z)) && ((decide ((Int.toNat (words + t26)) < (List.length z))) && ((fits .i64 (words + t26)) && ((fits .i64 ((words + t26) + 1)) && ((decide (0 <= (IntKind.wrap .u64 (64 - rest)))) && ((inR ((words + t26) + 1) (List.length (List.set z (Int.toNat (words + t26)) (bitsN .or .u64 (List.getD z (Int.toNat (words + t26)) 0) (IntKind.wrap .u64 ((List.getD t24 (Int.toNat t26) 0) * 2 ^ (min (Int.toNat rest) 64))))))) && ((decide ((Int.toNat ((words + t26) + 1)) < (List.length (List.set z (Int.toNat (words + t26)) (bitsN .or .u64 (List.getD z (Int.toNat (words + t26)) 0) (IntKind.wrap .u64 ((List.getD t24 (Int.toNat t26) 0) * 2 ^ (min (Int.toNat rest) 64)))))))) && ((fits .i64 (t26 + 1)) && (K ((t26 + 1), (List.set (List.set z (Int.toNat (words + t26)) (bitsN .or .u64 (List.getD z (Int.toNat (words + t26)) 0) (IntKind.wrap .u64 ((List.getD t24 (Int.toNat t26) 0) * 2 ^ (min (Int.toNat rest) 64))))) (Int.toNat ((words + t26) + 1)) (Int.fdiv (List.getD t24 (Int.toNat t26) 0) (2 ^ (min (Int.toNat (IntKind.wrap .u64 (64 - rest))) 64))))))))))))))))))) (e0 z))

def G_q124 (N_ : Nat) (S_q1 : TS_q1) (x : List Int) (n : Int) (k0 : List Int -> Bool) : Bool :=
  (cond ((((List.length x) : Nat) : Int) == 0) (k0 []) ((fits .i64 (IntKind.wrap .u64 (Int.tdiv n 64))) && ((fits .i64 ((IntKind.wrap .u64 (Int.tdiv n 64)) + (((List.length x) : Nat) : Int))) && ((fits .i64 (((IntKind.wrap .u64 (Int.tdiv n 64)) + (((List.length x) : Nat) : Int)) + 1)) && ((mkOk 8 (((IntKind.wrap .u64 (Int.tdiv n 64)) + (((List.length x) : Nat) : Int)) + 1) (((IntKind.wrap .u64 (Int.tdiv n 64)) + (((List.length x) : Nat) : Int)) + 1)) && (iterG N_ (st_big_left_0 N_ S_q1 (IntKind.wrap .u64 (Int.tdiv n 64)) (Int.tmod n 64) x (((List.length x) : Nat) : Int) (fun z_1 => (S_q1 z_1 (fun mr mr_1 => ((decide ((mr + mr_1) <= (List.length z_1))) && (k0 (List.take mr_1 (List.drop mr z_1)))))))) (0, (List.replicate (Int.toNat (((IntKind.wrap .u64 (Int.tdiv n 64)) + (((List.length x) : Nat) : Int)) + 1)) (0 : Int)))))))))

def s_q124 (N_ : Nat) : TS_q124 := G_q124 N_ (s_q1 N_)

abbrev TS_q72 : Type := Int -> Bool -> Bool -> List Int -> (Bool -> List Int -> Bool) -> Bool

def G_q72 (N_ : Nat) (S_q124 : TS_q124) (S_q0 : TS_q0) (n : Int) (b : Bool) (b_1 : Bool) (b_2 : List Int) (k0 : Bool -> List Int -> Bool) : Bool :=
  (S_q124 b_2 n (fun nsr => (S_q0 b_1 nsr b (fun cr => (k0 cr nsr)))))

def s_q72 (N_ : Nat) : TS_q72 := G_q72 N_ (s_q124 N_) (s_q0 N_)

abbrev TS_q35 : Type := Int -> Int -> Bool -> List Int -> (Bool -> List Int -> Bool) -> Bool

def G_q35 (N_ : Nat) (S_q72 : TS_q72) (x : Int) (e : Int) (b : Bool) (b_1 : List Int) (k0 : Bool -> List Int -> Bool) : Bool :=
  ((fits .i64 (x - e)) && (S_q72 (IntKind.wrap .u64 (x - e)) false b b_1 (fun cr nsr => (k0 cr nsr))))

def s_q35 (N_ : Nat) : TS_q35 := G_q35 N_ (s_q72 N_)

abbrev TS_q18 : Type := List Int -> Int -> (Int -> Bool) -> Bool

def G_q18 (N_ : Nat) (x : List Int) (i : Int) (k0 : Int -> Bool) : Bool :=
  (cond (decide (i < (((List.length x) : Nat) : Int))) ((inR i (List.length x)) && (k0 (List.getD x (Int.toNat i) 0))) (k0 0))

def s_q18 (N_ : Nat) : TS_q18 := G_q18 N_

abbrev TS_q170 : Type := List Int -> List Int -> (List Int -> Bool) -> Bool

def st_big_sum_0 (N_ : Nat) (S_q18 : TS_q18) (S_q74 : TS_q74) (S_q1 : TS_q1) (x_1 : List Int) (y_1 : List Int) (n : Int) (t17 : Int) (e0 : Int -> List Int -> Bool) : (Int × Int × List Int) -> ((Int × Int × List Int) -> Bool) -> Bool := fun v_ K => match v_ with
  | (carry, t18, z) => (cond (decide (t18 < t17)) (S_q18 x_1 t18 (fun nr => (S_q18 y_1 t18 (fun nr_1 => (S_q74 nr nr_1 carry (fun nr_2 nr_3 => ((inR t18 (List.length z)) && ((decide ((Int.toNat t18) < (List.length z))) && ((fits .i64 (t18 + 1)) && (K (nr_3, (t18 + 1), (List.set z (Int.toNat t18) nr_2)))))))))))) (e0 carry z))

def G_q170 (N_ : Nat) (S_q18 : TS_q18) (S_q74 : TS_q74) (S_q1 : TS_q1) (x : List Int) (y : List Int) (k0 : List Int -> Bool) : Bool :=
  ((fits .i64 ((imm true (((List.length x) : Nat) : Int) (((List.length y) : Nat) : Int)) + 1)) && ((mkOk 8 ((imm true (((List.length x) : Nat) : Int) (((List.length y) : Nat) : Int)) + 1) ((imm true (((List.length x) : Nat) : Int) (((List.length y) : Nat) : Int)) + 1)) && (iterG N_ (st_big_sum_0 N_ S_q18 S_q74 S_q1 x y (imm true (((List.length x) : Nat) : Int) (((List.length y) : Nat) : Int)) (imm true (((List.length x) : Nat) : Int) (((List.length y) : Nat) : Int)) (fun carry_1 z_1 => ((inR (imm true (((List.length x) : Nat) : Int) (((List.length y) : Nat) : Int)) (List.length z_1)) && ((decide ((Int.toNat (imm true (((List.length x) : Nat) : Int) (((List.length y) : Nat) : Int))) < (List.length z_1))) && (S_q1 (List.set z_1 (Int.toNat (imm true (((List.length x) : Nat) : Int) (((List.length y) : Nat) : Int))) carry_1) (fun mr mr_1 => ((decide ((mr + mr_1) <= (List.length (List.set z_1 (Int.toNat (imm true (((List.length x) : Nat) : Int) (((List.length y) : Nat) : Int))) carry_1)))) && (k0 (List.take mr_1 (List.drop mr (List.set z_1 (Int.toNat (imm true (((List.length x) : Nat) : Int) (((List.length y) : Nat) : Int))) carry_1))))))))))) (0, 0, (List.replicate (Int.toNat ((imm true (((List.length x) : Nat) : Int) (((List.length y) : Nat) : Int)) + 1)) (0 : Int))))))

def s_q170 (N_ : Nat) : TS_q170 := G_q170 N_ (s_q18 N_) (s_q74 N_) (s_q1 N_)

abbrev TS_q136 : Type := List Int -> List Int -> (Int -> Bool) -> Bool

def st_big_compare_0 (N_ : Nat) (x_1 : List Int) (y_1 : List Int) (e0 : Int -> Bool) (e1 : Bool) : (Int) -> ((Int) -> Bool) -> Bool := fun v_ K => match v_ with
  | i => (cond (decide (i >= 0)) ((inR i (List.length x_1)) && ((inR i (List.length y_1)) && (cond ((List.getD x_1 (Int.toNat i) 0) != (List.getD y_1 (Int.toNat i) 0)) ((inR i (List.length x_1)) && ((inR i (List.length y_1)) && (cond (decide ((List.getD x_1 (Int.toNat i) 0) < (List.getD y_1 (Int.toNat i) 0))) (e0 (-1)) (e0 1)))) ((fits .i64 (i - 1)) && (K (i - 1)))))) e1)

def G_q136 (N_ : Nat) (x : List Int) (y : List Int) (k0 : Int -> Bool) : Bool :=
  (cond ((((List.length x) : Nat) : Int) != (((List.length y) : Nat) : Int)) (cond (decide ((((List.length x) : Nat) : Int) < (((List.length y) : Nat) : Int))) (k0 (-1)) (k0 1)) ((fits .i64 ((((List.length x) : Nat) : Int) - 1)) && (iterG N_ (st_big_compare_0 N_ x y (fun t4 => (k0 t4)) (k0 0)) ((((List.length x) : Nat) : Int) - 1))))

def s_q136 (N_ : Nat) : TS_q136 := G_q136 N_

abbrev TS_q110 : Type := Int -> Int -> Int -> (Int -> Int -> Bool) -> Bool

def s_q110 (N_ : Nat) : TS_q110 := fun x y c k => (decide (c.toNat <= 1)) && k (((x.toNat + 18446744073709551616 - y.toNat - c.toNat) % 18446744073709551616 : Nat) : Int) (cond (decide (x.toNat < y.toNat + c.toNat)) 1 0)

abbrev TS_q176 : Type := List Int -> List Int -> (List Int -> Bool) -> Bool

def st_big_less_0 (N_ : Nat) (S_q18 : TS_q18) (S_q110 : TS_q110) (S_q1 : TS_q1) (x_1 : List Int) (y_1 : List Int) (t12 : Int) (e0 : List Int -> Bool) : (Int × Int × List Int) -> ((Int × Int × List Int) -> Bool) -> Bool := fun v_ K => match v_ with
  | (borrow, t13, z) => (cond (decide (t13 < t12)) ((inR t13 (List.length x_1)) && (S_q18 y_1 t13 (fun nr => (S_q110 (List.getD x_1 (Int.toNat t13) 0) nr borrow (fun nr_1 nr_2 => ((inR t13 (List.length z)) && ((decide ((Int.toNat t13) < (List.length z))) && ((fits .i64 (t13 + 1)) && (K (nr_2, (t13 + 1), (List.set z (Int.toNat t13) nr_1))))))))))) (e0 z))

def G_q176 (N_ : Nat) (S_q18 : TS_q18) (S_q110 : TS_q110) (S_q1 : TS_q1) (x : List Int) (y : List Int) (k0 : List Int -> Bool) : Bool :=
  ((mkOk 8 (((List.length x) : Nat) : Int) (((List.length x) : Nat) : Int)) && (iterG N_ (st_big_less_0 N_ S_q18 S_q110 S_q1 x y (((List.length x) : Nat) : Int) (fun z_1 => (S_q1 z_1 (fun mr mr_1 => ((decide ((mr + mr_1) <= (List.length z_1))) && (k0 (List.take mr_1 (List.drop mr z_1)))))))) (0, 0, (List.replicate (Int.toNat (((List.length x) : Nat) : Int)) (0 : Int)))))

def s_q176 (N_ : Nat) : TS_q176 := G_q176 N_ (s_q18 N_) (s_q110 N_) (s_q1 N_)

abbrev TS_q67 : Type := Bool -> List Int -> Bool -> Bool -> List Int -> (Bool -> List Int -> Bool) -> Bool

def G_q67 (N_ : Nat) (S_q170 : TS_q170) (S_q0 : TS_q0) (S_q136 : TS_q136) (S_q176 : TS_q176) (neg : Bool) (y : List Int) (b : Bool) (b_1 : Bool) (b_2 : List Int) (k0 : Bool -> List Int -> Bool) : Bool :=
  (cond (b_1 == neg) (S_q170 b_2 y (fun nsr => (S_q0 neg nsr b (fun cr => (k0 cr nsr))))) (S_q136 b_2 y (fun nr => (cond (decide (nr >= 0)) (S_q176 b_2 y (fun nsr_1 => (S_q0 b_1 nsr_1 b (fun cr_1 => (k0 cr_1 nsr_1))))) (S_q176 y b_2 (fun nsr_2 => (S_q0 neg nsr_2 b (fun cr_2 => (k0 cr_2 nsr_2)))))))))

def s_q67 (N_ : Nat) : TS_q67 := G_q67 N_ (s_q170 N_) (s_q0 N_) (s_q136 N_) (s_q176 N_)

abbrev TS_q27 : Type := Bool -> Bool -> List Int -> Bool -> List Int -> (Bool -> List Int -> Bool) -> Bool

def G_q27 (N_ : Nat) (S_q67 : TS_q67) (b : Bool) (b_1 : Bool) (b_2 : List Int) (b_3 : Bool) (b_4 : List Int) (k0 : Bool -> List Int -> Bool) : Bool :=
  (S_q67 b_3 b_4 b b_1 b_2 (fun cr nsr => (k0 cr nsr)))

def s_q27 (N_ : Nat) : TS_q27 := G_q27 N_ (s_q67 N_)

abbrev TS_q19 : Type := Int -> Int -> Bool -> Bool -> List Int -> (List Int -> Bool) -> (List Int -> Bool) -> (Int -> List Int -> Bool -> List Int -> Bool) -> Bool

def G_q19 (N_ : Nat) (S_q84 : TS_q84) (S_q4 : TS_q4) (S_q35 : TS_q35) (S_q27 : TS_q27) (x : Int) (y : Int) (b : Bool) (b_1 : Bool) (b_2 : List Int) (k0 : List Int -> Bool) (k1 : List Int -> Bool) (k2 : Int -> List Int -> Bool -> List Int -> Bool) : Bool :=
  (S_q84 b (fun nr nsr => (cond (nr == 0) (k0 nsr) (S_q4 b_1 b_2 (fun nr_1 => (cond (nr_1 == 0) (k1 nsr) (S_q35 x (imm false x y) b nsr (fun cr nsr_1 => (S_q35 y (imm false x y) b_1 b_2 (fun cr_1 nsr_2 => (S_q27 false cr nsr_1 cr_1 nsr_2 (fun cr_2 nsr_3 => (k2 (imm false x y) nsr cr_2 nsr_3)))))))))))))

def s_q19 (N_ : Nat) : TS_q19 := G_q19 N_ (s_q84 N_) (s_q4 N_) (s_q35 N_) (s_q27 N_)

abbrev TS_q3 : Type := Int -> Int -> Bool -> List Int -> Bool -> List Int -> (Bool) -> (Bool) -> (Int -> Bool -> List Int -> Bool) -> Bool

def G_q3 (N_ : Nat) (S_q4 : TS_q4) (S_q35 : TS_q35) (S_q27 : TS_q27) (x : Int) (y : Int) (b : Bool) (b_1 : List Int) (b_2 : Bool) (b_3 : List Int) (k0 : Bool) (k1 : Bool) (k2 : Int -> Bool -> List Int -> Bool) : Bool :=
  (S_q4 b b_1 (fun nr => (cond (nr == 0) k0 (S_q4 b_2 b_3 (fun nr_1 => (cond (nr_1 == 0) k1 (S_q35 x (imm false x y) b b_1 (fun cr nsr => (S_q35 y (imm false x y) b_2 b_3 (fun cr_1 nsr_1 => (S_q27 false cr nsr cr_1 nsr_1 (fun cr_2 nsr_2 => (k2 (imm false x y) cr_2 nsr_2)))))))))))))

def s_q3 (N_ : Nat) : TS_q3 := G_q3 N_ (s_q4 N_) (s_q35 N_) (s_q27 N_)

abbrev TS_q39 : Type := Bool -> Bool -> List Int -> (Bool -> List Int -> Bool) -> Bool

def G_q39 (N_ : Nat) (S_q85 : TS_q85) (S_q0 : TS_q0) (b : Bool) (b_1 : Bool) (b_2 : List Int) (k0 : Bool -> List Int -> Bool) : Bool :=
  (S_q85 b_2 (fun nsr => (S_q0 b_1 nsr b (fun cr => (k0 cr nsr)))))

def s_q39 (N_ : Nat) : TS_q39 := G_q39 N_ (s_q85 N_) (s_q0 N_)

abbrev TS_q58 : Type := Int -> Bool -> List Int -> (Int -> Bool) -> Bool

def G_q58 (N_ : Nat) (S_q18 : TS_q18) (i : Int) (b : Bool) (b_1 : List Int) (k0 : Int -> Bool) : Bool :=
  ((fits .i64 (Int.tdiv i 64)) && (S_q18 b_1 (Int.tdiv i 64) (fun nr => ((decide (0 <= (Int.tmod i 64))) && (k0 (bitsN .and .u64 (Int.fdiv nr (2 ^ (min (Int.toNat (Int.tmod i 64)) 64))) 1))))))

def s_q58 (N_ : Nat) : TS_q58 := G_q58 N_ (s_q18 N_)

abbrev TS_q11 : Type := Bool -> List Int -> (Int -> Bool) -> Bool

def st_q202 (N_ : Nat) (S_q7 : TS_q7) (t8 : List Int) (t9 : Int) (b0 : Bool) (b0_1 : List Int) (e0 : Int -> Bool) (e1 : Bool) : (Int) -> ((Int) -> Bool) -> Bool := fun v_ K => match v_ with
  | t10 => (cond (decide (t10 < t9)) ((inR t10 (List.length t8)) && (cond ((List.getD t8 (Int.toNat t10) 0) != 0) ((fits .i64 (64 * t10)) && (S_q7 (List.getD t8 (Int.toNat t10) 0) (fun nr => ((fits .i64 ((64 * t10) + nr)) && (e0 (IntKind.wrap .u64 ((64 * t10) + nr))))))) ((fits .i64 (t10 + 1)) && (K (t10 + 1))))) e1)

def G_q11 (N_ : Nat) (S_q7 : TS_q7) (b : Bool) (b_1 : List Int) (k0 : Int -> Bool) : Bool :=
  (iterG N_ (st_q202 N_ S_q7 b_1 (((List.length b_1) : Nat) : Int) b b_1 (fun t2 => (k0 t2)) (k0 0)) 0)

def s_q11 (N_ : Nat) : TS_q11 := G_q11 N_ (s_q7 N_)

abbrev TS_q154 : Type := List Int -> Int -> (List Int -> Bool -> Bool) -> Bool

def st_big_right_0 (N_ : Nat) (S_q18 : TS_q18) (S_q1 : TS_q1) (x_1 : List Int) (words : Int) (rest : Int) (t37 : List Int) (t38 : Int) (e0 : Int -> Bool) : (Int × Int) -> ((Int × Int) -> Bool) -> Bool := fun v_ K => match v_ with
  | (lost, t39) => (cond (decide (t39 < t38)) ((inR t39 (List.length t37)) && ((fits .i64 (t39 + 1)) && (K ((bitsN .or .u64 lost (List.getD t37 (Int.toNat t39) 0)), (t39 + 1))))) (e0 lost))

def st_big_right_2 (N_ : Nat) (S_q18 : TS_q18) (S_q1 : TS_q1) (x_2 : List Int) (words_1 : Int) (rest_1 : Int) (lost_2 : Int) (t53 : Int) (e0 : List Int -> Bool) : (Int × List Int) -> ((Int × List Int) -> Bool) -> Bool := fun v_ K => match v_ with
  | (t54, z) => (cond (decide (t54 < t53)) ((fits .i64 (words_1 + t54)) && (S_q18 x_2 (words_1 + t54) (fun nr => ((decide (0 <= rest_1)) && ((fits .i64 (words_1 + t54)) && ((fits .i64 ((words_1 + t54) + 1)) && (S_q18 x_2 ((words_1 + t54) + 1) (fun nr_1 => ((decide (0 <= (IntKind.wrap .u64 (64 - rest_1)))) && ((inR t54 (List.length z)) && ((decide ((Int.toNat t54) < (List.length z))) && ((fits .i64 (t54 + 1)) && (K ((t54 + 1), (List.set z (Int.toNat t54) (bitsN .or .u64 (Int.fdiv nr (2 ^ (min (Int.toNat rest_1) 64))) (IntKind.wrap .u64 (nr_1 * 2 ^ (min (Int.toNat (IntKind.wrap .u64 (64 - rest_1))) 64))))))))))))))))))) (e0 z))

def G_q154 (N_ : Nat) (S_q18 : TS_q18) (S_q1 : TS_q1) (x : List Int) (n : Int) (k0 : List Int -> Bool -> Bool) : Bool :=
  (cond (decide ((IntKind.wrap .u64 (Int.tdiv n 64)) >= (IntKind.wrap .u64 (((List.length x) : Nat) : Int)))) (k0 [] (decide ((((List.length x) : Nat) : Int) > 0))) ((fits .i64 (IntKind.wrap .u64 (Int.tdiv n 64))) && ((inR (IntKind.wrap .u64 (Int.tdiv n 64)) (List.length x)) && ((decide (0 <= (Int.tmod n 64))) && ((decide (0 <= (IntKind.wrap .u64 (Int.tdiv n 64)) /\ (IntKind.wrap .u64 (Int.tdiv n 64)) <= (((List.length x) : Nat) : Int))) && (iterG N_ (st_big_right_0 N_ S_q18 S_q1 x (IntKind.wrap .u64 (Int.tdiv n 64)) (Int.tmod n 64) (List.drop 0 (List.take (Int.toNat (IntKind.wrap .u64 (Int.tdiv n 64))) x)) (((List.length (List.drop 0 (List.take (Int.toNat (IntKind.wrap .u64 (Int.tdiv n 64))) x))) : Nat) : Int) (fun lost_1 => ((fits .i64 ((((List.length x) : Nat) : Int) - (IntKind.wrap .u64 (Int.tdiv n 64)))) && ((mkOk 8 ((((List.length x) : Nat) : Int) - (IntKind.wrap .u64 (Int.tdiv n 64))) ((((List.length x) : Nat) : Int) - (IntKind.wrap .u64 (Int.tdiv n 64)))) && (iterG N_ (st_big_right_2 N_ S_q18 S_q1 x (IntKind.wrap .u64 (Int.tdiv n 64)) (Int.tmod n 64) lost_1 (((List.length (List.replicate (Int.toNat ((((List.length x) : Nat) : Int) - (IntKind.wrap .u64 (Int.tdiv n 64)))) (0 : Int))) : Nat) : Int) (fun z_1 => (S_q1 z_1 (fun mr mr_1 => ((decide ((mr + mr_1) <= (List.length z_1))) && (k0 (List.take mr_1 (List.drop mr z_1)) (lost_1 != 0))))))) (0, (List.replicate (Int.toNat ((((List.length x) : Nat) : Int) - (IntKind.wrap .u64 (Int.tdiv n 64)))) (0 : Int)))))))) ((bitsN .and .u64 (List.getD x (Int.toNat (IntKind.wrap .u64 (Int.tdiv n 64))) 0) (IntKind.wrap .u64 ((IntKind.wrap .u64 (1 * 2 ^ (min (Int.toNat (Int.tmod n 64)) 64))) - 1))), 0)))))))

def s_q154 (N_ : Nat) : TS_q154 := G_q154 N_ (s_q18 N_) (s_q1 N_)

abbrev TS_q17 : Type := Int -> Bool -> List Int -> (Bool -> List Int -> Bool) -> Bool

def G_q17 (N_ : Nat) (S_q154 : TS_q154) (S_q170 : TS_q170) (S_q32 : TS_q32) (n : Int) (b : Bool) (b_1 : List Int) (k0 : Bool -> List Int -> Bool) : Bool :=
  (S_q154 b_1 n (fun nsr cr => (cond (b == true) (cond cr (S_q170 nsr [1] (fun nsr_1 => (S_q32 b nsr_1 b b_1 (fun cr_1 => (k0 cr_1 nsr_1))))) (S_q32 b nsr b b_1 (fun cr_2 => (k0 cr_2 nsr)))) (S_q32 b nsr b b_1 (fun cr_3 => (k0 cr_3 nsr))))))

def s_q17 (N_ : Nat) : TS_q17 := G_q17 N_ (s_q154 N_) (s_q170 N_) (s_q32 N_)

abbrev TS_q24 : Type := Int -> Bool -> List Int -> (Int -> Bool -> List Int -> Bool) -> Bool

def st_q216 (N_ : Nat) (S_q39 : TS_q39) (S_q4 : TS_q4) (S_q58 : TS_q58) (S_q11 : TS_q11) (S_q17 : TS_q17) (b0 : Bool) (b0_1 : List Int) (t2 : Value) (t2_1 : Int) (e0 : Int -> Bool -> List Int -> Bool) : (Int × Bool × List Int) -> ((Int × Bool × List Int) -> Bool) -> Bool := fun v_ K => match v_ with
  | (e, n, n_1) => (S_q4 n n_1 (fun nr => (cond ((nr != 0) == true) (S_q58 0 n n_1 (fun nr_1 => (cond (nr_1 == 0) (S_q11 n n_1 (fun nr_2 => (S_q17 nr_2 n n_1 (fun cr_1 nsr_1 => ((fits .i64 nr_2) && ((fits .i64 (e + nr_2)) && (K ((e + nr_2), cr_1, nsr_1)))))))) (e0 e n n_1)))) (e0 e n n_1))))

def G_q24 (N_ : Nat) (S_q39 : TS_q39) (S_q4 : TS_q4) (S_q58 : TS_q58) (S_q11 : TS_q11) (S_q17 : TS_q17) (x : Int) (b : Bool) (b_1 : List Int) (k0 : Int -> Bool -> List Int -> Bool) : Bool :=
  (S_q39 false b b_1 (fun cr nsr => (iterG N_ (st_q216 N_ S_q39 S_q4 S_q58 S_q11 S_q17 b b_1 (.pointer none) 0 (fun e_1 n_2 n_3 => (k0 e_1 n_2 n_3))) (x, cr, nsr))))

def s_q24 (N_ : Nat) : TS_q24 := G_q24 N_ (s_q39 N_) (s_q4 N_) (s_q58 N_) (s_q11 N_) (s_q17 N_)

abbrev TS_q117 : Type := Int -> (Int -> Bool) -> Bool

def J_q200 (N_ : Nat) (x : Int) (x_2 : Int) (n_1 : Int) (k0 : Int -> Bool) : Bool :=
  (cond (decide (x_2 >= 256)) ((fits .i64 (n_1 + 8)) && ((inR (IntKind.wrap .u8 (Int.fdiv x_2 (2 ^ 8))) 256) && ((fits .i64 (List.getD strTab_11c1601c (Int.toNat (IntKind.wrap .u8 (Int.fdiv x_2 (2 ^ 8)))) 0)) && ((fits .i64 ((n_1 + 8) + (List.getD strTab_11c1601c (Int.toNat (IntKind.wrap .u8 (Int.fdiv x_2 (2 ^ 8)))) 0))) && (k0 ((n_1 + 8) + (List.getD strTab_11c1601c (Int.toNat (IntKind.wrap .u8 (Int.fdiv x_2 (2 ^ 8)))) 0))))))) ((inR (IntKind.wrap .u8 x_2) 256) && ((fits .i64 (List.getD strTab_11c1601c (Int.toNat (IntKind.wrap .u8 x_2)) 0)) && ((fits .i64 (n_1 + (List.getD strTab_11c1601c (Int.toNat (IntKind.wrap .u8 x_2)) 0))) && (k0 (n_1 + (List.getD strTab_11c1601c (Int.toNat (IntKind.wrap .u8 x_2)) 0)))))))

def J_q194 (N_ : Nat) (x : Int) (x_1 : Int) (n : Int) (k0 : Int -> Bool) : Bool :=
  (cond (decide (x_1 >= 65536)) ((fits .i64 (n + 16)) && (J_q200 N_ x (Int.fdiv x_1 (2 ^ 16)) (n + 16) k0)) (J_q200 N_ x x_1 n k0))

def G_q117 (N_ : Nat) (x : Int) (k0 : Int -> Bool) : Bool :=
  (cond (decide (x >= 4294967296)) (J_q194 N_ x (Int.fdiv x (2 ^ 32)) 32 k0) (J_q194 N_ x x 0 k0))

def s_q117 (N_ : Nat) : TS_q117 := G_q117 N_

abbrev TS_q151 : Type := List Int -> (Int -> Bool) -> Bool

def G_q151 (N_ : Nat) (S_q117 : TS_q117) (x : List Int) (k0 : Int -> Bool) : Bool :=
  (cond ((((List.length x) : Nat) : Int) == 0) (k0 0) ((fits .i64 ((((List.length x) : Nat) : Int) - 1)) && ((fits .i64 (64 * ((((List.length x) : Nat) : Int) - 1))) && ((fits .i64 ((((List.length x) : Nat) : Int) - 1)) && ((inR ((((List.length x) : Nat) : Int) - 1) (List.length x)) && (S_q117 (List.getD x (Int.toNat ((((List.length x) : Nat) : Int) - 1)) 0) (fun nr => ((fits .i64 ((64 * ((((List.length x) : Nat) : Int) - 1)) + nr)) && (k0 ((64 * ((((List.length x) : Nat) : Int) - 1)) + nr))))))))))

def s_q151 (N_ : Nat) : TS_q151 := G_q151 N_ (s_q117 N_)

abbrev TS_q38 : Type := Bool -> List Int -> (Int -> Bool) -> Bool

def G_q38 (N_ : Nat) (S_q151 : TS_q151) (b : Bool) (b_1 : List Int) (k0 : Int -> Bool) : Bool :=
  (S_q151 b_1 (fun nr => (k0 nr)))

def s_q38 (N_ : Nat) : TS_q38 := G_q38 N_ (s_q151 N_)

abbrev TS_q61 : Type := Int -> Bool -> (Bool -> List Int -> Bool) -> Bool

def G_q61 (N_ : Nat) (S_q150 : TS_q150) (S_q0 : TS_q0) (n : Int) (b : Bool) (k0 : Bool -> List Int -> Bool) : Bool :=
  (cond (decide (n < 0)) (S_q150 (IntKind.wrap .u64 (0 - (IntKind.wrap .u64 n))) (fun nsr => (S_q0 true nsr b (fun cr => (k0 cr nsr))))) (S_q150 (IntKind.wrap .u64 n) (fun nsr_1 => (S_q0 false nsr_1 b (fun cr_1 => (k0 cr_1 nsr_1))))))

def s_q61 (N_ : Nat) : TS_q61 := G_q61 N_ (s_q150 N_) (s_q0 N_)

abbrev TS_q65 : Type := Int -> (Bool -> List Int -> Bool) -> Bool

def G_q65 (N_ : Nat) (S_q61 : TS_q61) (n : Int) (k0 : Bool -> List Int -> Bool) : Bool :=
  (S_q61 n false (fun cr nsr => (k0 cr nsr)))

def s_q65 (N_ : Nat) : TS_q65 := G_q65 N_ (s_q61 N_)

abbrev TS_q37 : Type := Bool -> Bool -> List Int -> (Bool -> List Int -> Bool) -> Bool

def G_q37 (N_ : Nat) (S_q85 : TS_q85) (S_q0 : TS_q0) (b : Bool) (b_1 : Bool) (b_2 : List Int) (k0 : Bool -> List Int -> Bool) : Bool :=
  (S_q85 b_2 (fun nsr => (S_q0 false nsr b (fun cr => (k0 cr nsr)))))

def s_q37 (N_ : Nat) : TS_q37 := G_q37 N_ (s_q85 N_) (s_q0 N_)

abbrev TS_q41 : Type := Bool -> Nat -> Nat -> Bool -> List Int -> (Bool -> Bool) -> Bool

def G_q41 (N_ : Nat) (neg : Bool) (abs_0 : Nat) (abs_1 : Nat) (b : Bool) (b_1 : List Int) (k0 : Bool -> Bool) : Bool :=
  (cond (neg == true) (k0 (decide (((abs_1 : Nat) : Int) > 0))) (k0 false))

def s_q41 (N_ : Nat) : TS_q41 := G_q41 N_

abbrev TS_q25 : Type := Bool -> Bool -> List Int -> Bool -> List Int -> (Bool -> List Int -> Bool) -> Bool

def st_q222 (N_ : Nat) (S_q1 : TS_q1) (S_q41 : TS_q41) (t22 : Int) (z : Bool) (x : Bool) (x_1 : List Int) (y : Bool) (y_1 : List Int) (e0 : List Int -> Bool) : (Int × List Int) -> ((Int × List Int) -> Bool) -> Bool := fun v_ K => match v_ with
  | (t23, r) => (cond (decide (t23 < t22)) ((inR t23 (List.length x_1)) && ((inR t23 (List.length y_1)) && ((inR t23 (List.length r)) && ((decide ((Int.toNat t23) < (List.length r))) && ((fits .i64 (t23 + 1)) && (K ((t23 + 1), (List.set r (Int.toNat t23) (bitsN .and .u64 (List.getD x_1 (Int.toNat t23) 0) (List.getD y_1 (Int.toNat t23) 0)))))))))) (e0 r))

def G_q25 (N_ : Nat) (S_q1 : TS_q1) (S_q41 : TS_q41) (b : Bool) (b_1 : Bool) (b_2 : List Int) (b_3 : Bool) (b_4 : List Int) (k0 : Bool -> List Int -> Bool) : Bool :=
  ((mkOk 8 (imm false (((List.length b_2) : Nat) : Int) (((List.length b_4) : Nat) : Int)) (imm false (((List.length b_2) : Nat) : Int) (((List.length b_4) : Nat) : Int))) && (iterG N_ (st_q222 N_ S_q1 S_q41 (((List.length (List.replicate (Int.toNat (imm false (((List.length b_2) : Nat) : Int) (((List.length b_4) : Nat) : Int))) (0 : Int))) : Nat) : Int) b b_1 b_2 b_3 b_4 (fun r_1 => (S_q1 r_1 (fun mr mr_1 => (S_q41 false mr mr_1 b r_1 (fun cr => ((decide ((mr + mr_1) <= (List.length r_1))) && (k0 cr (List.take mr_1 (List.drop mr r_1)))))))))) (0, (List.replicate (Int.toNat (imm false (((List.length b_2) : Nat) : Int) (((List.length b_4) : Nat) : Int))) (0 : Int)))))

def s_q25 (N_ : Nat) : TS_q25 := G_q25 N_ (s_q1 N_) (s_q41 N_)

abbrev TS_q187 : Type := List Int -> (Int -> Bool) -> Bool

def G_q187 (N_ : Nat) (S_q18 : TS_q18) (x : List Int) (k0 : Int -> Bool) : Bool :=
  (S_q18 x 0 (fun nr => (k0 nr)))

def s_q187 (N_ : Nat) : TS_q187 := G_q187 N_ (s_q18 N_)

abbrev TS_q40 : Type := Bool -> List Int -> (Int -> Bool) -> Bool

def G_q40 (N_ : Nat) (S_q187 : TS_q187) (b : Bool) (b_1 : List Int) (k0 : Int -> Bool) : Bool :=
  (S_q187 b_1 (fun nr => (k0 nr)))

def s_q40 (N_ : Nat) : TS_q40 := G_q40 N_ (s_q187 N_)

abbrev TS_q16 : Type := Int -> Bool -> List Int -> (Bool -> Int -> Int -> Bool) -> (Bool -> Int -> Int -> List Int -> Bool) -> Bool

def st_q223 (N_ : Nat) (S_q24 : TS_q24) (S_q4 : TS_q4) (S_q38 : TS_q38) (S_q65 : TS_q65) (S_q37 : TS_q37) (S_q25 : TS_q25) (S_q40 : TS_q40) (S_q17 : TS_q17) (b0_2 : Bool) (b0_3 : List Int) (t2_2 : Bool) (t2_3 : Int) (d_2 : Bool) (d_3 : Int) (mask_2 : Bool) (mask_3 : List Int) (e0 : List Int -> Bool) : (Bool × List Int × List Int) -> ((Bool × List Int × List Int) -> Bool) -> Bool := fun v_ K => match v_ with
  | (m_2, m_3, b5) => (S_q4 m_2 m_3 (fun nr_6 => (cond (nr_6 != 0) (S_q25 false m_2 m_3 mask_2 mask_3 (fun cr_5 nsr_5 => (S_q40 cr_5 nsr_5 (fun nr_7 => ((decide ((List.length (b5 ++ [(IntKind.wrap .u32 nr_7)])) * 4 <= 140737488355328)) && (S_q17 32 m_2 m_3 (fun cr_6 nsr_6 => (K (cr_6, nsr_6, (b5 ++ [(IntKind.wrap .u32 nr_7)])))))))))) (e0 b5))))

def G_q16 (N_ : Nat) (S_q24 : TS_q24) (S_q4 : TS_q4) (S_q38 : TS_q38) (S_q65 : TS_q65) (S_q37 : TS_q37) (S_q25 : TS_q25) (S_q40 : TS_q40) (S_q17 : TS_q17) (x : Int) (b : Bool) (b_1 : List Int) (k0 : Bool -> Int -> Int -> Bool) (k1 : Bool -> Int -> Int -> List Int -> Bool) : Bool :=
  (S_q24 x b b_1 (fun nr cr nsr => (S_q4 cr nsr (fun nr_1 => (cond (nr_1 == 0) (k0 false 0 0) (S_q38 cr nsr (fun nr_2 => (cond ((decide (nr_2 > 65536)) == false) (cond ((decide (nr > 100000)) == false) (cond (decide (nr < (-100000))) (k0 false 0 2) (S_q4 cr nsr (fun nr_3 => (S_q65 4294967295 (fun cr_1 nsr_1 => (S_q37 false cr nsr (fun cr_2 nsr_2 => (iterG N_ (st_q223 N_ S_q24 S_q4 S_q38 S_q65 S_q37 S_q25 S_q40 S_q17 b b_1 false 0 (decide (nr_3 < 0)) nr cr_1 nsr_1 (fun b3 => (k1 (decide (nr_3 < 0)) nr 0 b3))) (cr_2, nsr_2, []))))))))) (k0 false 0 2)) (k0 false 0 2)))))))))

def s_q16 (N_ : Nat) : TS_q16 := G_q16 N_ (s_q24 N_) (s_q4 N_) (s_q38 N_) (s_q65 N_) (s_q37 N_) (s_q25 N_) (s_q40 N_) (s_q17 N_)

abbrev TS_q94 : Type := List Fl -> List Fl -> (Bool -> Int -> Int -> Bool) -> (Bool -> Int -> Int -> List Int -> Bool) -> Bool

def st_dyad_Dot_0 (N_ : Nat) (S_q97 : TS_q97) (S_q171 : TS_q171) (S_q20 : TS_q20) (S_q19 : TS_q19) (S_q3 : TS_q3) (S_q16 : TS_q16) (b_2 : List Fl) (t26_1 : List Fl) (t27_1 : Int) (t4_2 : Bool) (t4_3 : Int) (e0 : Int -> Bool -> List Int -> Bool) : (Int × Int × Bool × List Int) -> ((Int × Int × Bool × List Int) -> Bool) -> Bool := fun v_ K => match v_ with
  | (t28_1, s_1, b2_1, b2_2) => (cond (decide (t28_1 < t27_1)) ((inR t28_1 (List.length t26_1)) && (S_q171 (List.getD t26_1 (Int.toNat t28_1) none) (fun nr_3 cr_5 nsr_4 => ((inR t28_1 (List.length b_2)) && (S_q171 (List.getD b_2 (Int.toNat t28_1) none) (fun nr_4 cr_6 nsr_5 => (S_q20 nr_3 nr_4 cr_5 nsr_4 cr_6 nsr_5 (fun nr_5 cr_7 nsr_6 => (S_q3 s_1 nr_5 b2_1 b2_2 cr_7 nsr_6 ((fits .i64 (t28_1 + 1)) && (K ((t28_1 + 1), nr_5, cr_7, nsr_6))) ((fits .i64 (t28_1 + 1)) && (K ((t28_1 + 1), s_1, b2_1, b2_2))) (fun nr_6 cr_8 nsr_7 => ((fits .i64 (t28_1 + 1)) && (K ((t28_1 + 1), nr_6, cr_8, nsr_7))))))))))))) (e0 s_1 b2_1 b2_2))

def G_q94 (N_ : Nat) (S_q97 : TS_q97) (S_q171 : TS_q171) (S_q20 : TS_q20) (S_q19 : TS_q19) (S_q3 : TS_q3) (S_q16 : TS_q16) (a : List Fl) (b : List Fl) (k0 : Bool -> Int -> Int -> Bool) (k1 : Bool -> Int -> Int -> List Int -> Bool) : Bool :=
  (cond ((((List.length a) : Nat) : Int) != (((List.length b) : Nat) : Int)) (k0 false 0 3) (S_q97 a (fun cr => (cond ((!cr) == false) (S_q97 b (fun cr_1 => (cond (!cr_1) (k0 false 0 4) (iterG N_ (st_dyad_Dot_0 N_ S_q97 S_q171 S_q20 S_q19 S_q3 S_q16 b a (((List.length a) : Nat) : Int) false 0 (fun s_2 b2_3 b2_4 => (S_q16 s_2 b2_3 b2_4 (fun cr_9 nr_7 nr_8 => (k0 cr_9 nr_7 nr_8)) (fun cr_10 nr_9 nr_10 nsr_8 => (k1 cr_10 nr_9 nr_10 nsr_8))))) (0, 0, false, []))))) (k0 false 0 4)))))

def s_q94 (N_ : Nat) : TS_q94 := G_q94 N_ (s_q97 N_) (s_q171 N_) (s_q20 N_) (s_q19 N_) (s_q3 N_) (s_q16 N_)

abbrev TS_q149 : Type := Bool -> List Int -> Int -> (Bool -> Bool) -> Bool

def G_q149 (N_ : Nat) (d_0 : Bool) (d_1 : List Int) (d_2 : Int) (k0 : Bool -> Bool) : Bool :=
  (cond ((((List.length d_1) : Nat) : Int) == 0) (cond ((!d_0) == true) (k0 (d_2 == 0)) (k0 false)) (cond ((decide ((((List.length d_1) : Nat) : Int) <= 2048)) == true) ((fits .i64 ((((List.length d_1) : Nat) : Int) - 1)) && ((inR ((((List.length d_1) : Nat) : Int) - 1) (List.length d_1)) && (cond (((List.getD d_1 (Int.toNat ((((List.length d_1) : Nat) : Int) - 1)) 0) != 0) == true) ((inR 0 (List.length d_1)) && (cond (((Int.tmod (List.getD d_1 0 0) 2) == 1) == true) (cond ((decide (d_2 >= (-100000))) == true) (k0 (decide (d_2 <= 100000))) (k0 false)) (k0 false))) (k0 false)))) (k0 false)))

def s_q149 (N_ : Nat) : TS_q149 := G_q149 N_

abbrev TS_q44 : Type := Int -> Bool -> (Bool -> List Int -> Bool) -> Bool

def G_q44 (N_ : Nat) (S_q124 : TS_q124) (S_q0 : TS_q0) (n : Int) (b : Bool) (k0 : Bool -> List Int -> Bool) : Bool :=
  (S_q124 [] n (fun nsr => (S_q0 b nsr b (fun cr => (k0 cr nsr)))))

def s_q44 (N_ : Nat) : TS_q44 := G_q44 N_ (s_q124 N_) (s_q0 N_)

abbrev TS_q42 : Type := Bool -> Nat -> Nat -> Bool -> List Int -> List Int -> (Bool -> Bool) -> Bool

def G_q42 (N_ : Nat) (neg : Bool) (abs_0 : Nat) (abs_1 : Nat) (b : Bool) (b_1 : List Int) (b_2 : List Int) (k0 : Bool -> Bool) : Bool :=
  (cond (neg == true) (k0 (decide (((abs_1 : Nat) : Int) > 0))) (k0 false))

def s_q42 (N_ : Nat) : TS_q42 := G_q42 N_

abbrev TS_q31 : Type := Bool -> List Int -> Bool -> List Int -> (Bool -> List Int -> Bool) -> Bool

def st_q224 (N_ : Nat) (S_q18 : TS_q18) (S_q1 : TS_q1) (S_q42 : TS_q42) (t22 : Int) (z : Bool) (z_1 : List Int) (y : Bool) (y_1 : List Int) (e0 : List Int -> Bool) : (Int × List Int) -> ((Int × List Int) -> Bool) -> Bool := fun v_ K => match v_ with
  | (t23, r) => (cond (decide (t23 < t22)) (S_q18 z_1 t23 (fun nr => (S_q18 y_1 t23 (fun nr_1 => ((inR t23 (List.length r)) && ((decide ((Int.toNat t23) < (List.length r))) && ((fits .i64 (t23 + 1)) && (K ((t23 + 1), (List.set r (Int.toNat t23) (bitsN .or .u64 nr nr_1))))))))))) (e0 r))

def G_q31 (N_ : Nat) (S_q18 : TS_q18) (S_q1 : TS_q1) (S_q42 : TS_q42) (b : Bool) (b_1 : List Int) (b_2 : Bool) (b_3 : List Int) (k0 : Bool -> List Int -> Bool) : Bool :=
  ((mkOk 8 (imm true (((List.length b_1) : Nat) : Int) (((List.length b_3) : Nat) : Int)) (imm true (((List.length b_1) : Nat) : Int) (((List.length b_3) : Nat) : Int))) && (iterG N_ (st_q224 N_ S_q18 S_q1 S_q42 (((List.length (List.replicate (Int.toNat (imm true (((List.length b_1) : Nat) : Int) (((List.length b_3) : Nat) : Int))) (0 : Int))) : Nat) : Int) b b_1 b_2 b_3 (fun r_1 => (S_q1 r_1 (fun mr mr_1 => (S_q42 false mr mr_1 b b_1 r_1 (fun cr => ((decide ((mr + mr_1) <= (List.length r_1))) && (k0 cr (List.take mr_1 (List.drop mr r_1)))))))))) (0, (List.replicate (Int.toNat (imm true (((List.length b_1) : Nat) : Int) (((List.length b_3) : Nat) : Int))) (0 : Int)))))

def s_q31 (N_ : Nat) : TS_q31 := G_q31 N_ (s_q18 N_) (s_q1 N_) (s_q42 N_)

abbrev TS_q48 : Type := Int -> Bool -> List Int -> (Bool -> List Int -> Bool) -> Bool

def G_q48 (N_ : Nat) (S_q124 : TS_q124) (S_q32 : TS_q32) (n : Int) (b : Bool) (b_1 : List Int) (k0 : Bool -> List Int -> Bool) : Bool :=
  (S_q124 b_1 n (fun nsr => (S_q32 b nsr b b_1 (fun cr => (k0 cr nsr)))))

def s_q48 (N_ : Nat) : TS_q48 := G_q48 N_ (s_q124 N_) (s_q32 N_)

abbrev TS_q130 : Type := Bool -> List Int -> Int -> (Bool -> List Int -> Bool) -> Bool

def st_dyad_take_0 (N_ : Nat) (S_q44 : TS_q44) (S_q65 : TS_q65) (S_q31 : TS_q31) (S_q48 : TS_q48) (S_q26 : TS_q26) (d_3 : Bool) (d_4 : List Int) (d_5 : Int) (t2_2 : Value) (t2_3 : Int) (e0 : Bool -> List Int -> Bool) : (Int × Bool × List Int) -> ((Int × Bool × List Int) -> Bool) -> Bool := fun v_ K => match v_ with
  | (i_1, n_1, n_2) => (cond (decide (i_1 >= 0)) (S_q48 32 n_1 n_2 (fun cr_3 nsr_3 => ((inR i_1 (List.length d_4)) && ((fits .i64 (List.getD d_4 (Int.toNat i_1) 0)) && (S_q65 (List.getD d_4 (Int.toNat i_1) 0) (fun cr_4 nsr_4 => (S_q31 cr_3 nsr_3 cr_4 nsr_4 (fun cr_5 nsr_5 => ((fits .i64 (i_1 - 1)) && (K ((i_1 - 1), cr_5, nsr_5))))))))))) (e0 n_1 n_2))

def G_q130 (N_ : Nat) (S_q44 : TS_q44) (S_q65 : TS_q65) (S_q31 : TS_q31) (S_q48 : TS_q48) (S_q26 : TS_q26) (d_0 : Bool) (d_1 : List Int) (d_2 : Int) (k0 : Bool -> List Int -> Bool) : Bool :=
  ((fits .i64 ((((List.length d_1) : Nat) : Int) - 1)) && (iterG N_ (st_dyad_take_0 N_ S_q44 S_q65 S_q31 S_q48 S_q26 d_0 d_1 d_2 (.pointer none) 0 (fun n_3 n_4 => (cond d_0 (S_q26 n_3 n_4 (fun cr_6 nsr_6 => (k0 cr_6 nsr_6))) (k0 n_3 n_4)))) (((((List.length d_1) : Nat) : Int) - 1), false, [])))

def s_q130 (N_ : Nat) : TS_q130 := G_q130 N_ (s_q44 N_) (s_q65 N_) (s_q31 N_) (s_q48 N_) (s_q26 N_)

abbrev TS_q45 : Type := Bool -> Bool -> List Int -> (Bool -> List Int -> Bool) -> Bool

def G_q45 (N_ : Nat) (S_q85 : TS_q85) (S_q0 : TS_q0) (b : Bool) (b_1 : Bool) (b_2 : List Int) (k0 : Bool -> List Int -> Bool) : Bool :=
  (S_q85 b_2 (fun nsr => (S_q0 (!b_1) nsr b (fun cr => (k0 cr nsr)))))

def s_q45 (N_ : Nat) : TS_q45 := G_q45 N_ (s_q85 N_) (s_q0 N_)

abbrev TS_q78 : Type := Int -> Int -> Bool -> List Int -> Bool -> List Int -> (Int -> Bool -> List Int -> Bool) -> (Bool) -> Bool

def G_q78 (N_ : Nat) (S_q45 : TS_q45) (S_q3 : TS_q3) (x : Int) (y : Int) (b : Bool) (b_1 : List Int) (b_2 : Bool) (b_3 : List Int) (k0 : Int -> Bool -> List Int -> Bool) (k1 : Bool) : Bool :=
  (S_q45 false b_2 b_3 (fun cr nsr => (S_q3 x y b b_1 cr nsr (k0 y cr nsr) k1 (fun nr cr_1 nsr_1 => (k0 nr cr_1 nsr_1)))))

def s_q78 (N_ : Nat) : TS_q78 := G_q78 N_ (s_q45 N_) (s_q3 N_)

abbrev TS_q137 : Type := Bool -> List Int -> Int -> Bool -> List Int -> Int -> (Bool -> Int -> Int -> Bool) -> (Bool -> Int -> Int -> List Int -> Bool) -> Bool

def G_q137 (N_ : Nat) (S_q149 : TS_q149) (S_q130 : TS_q130) (S_q78 : TS_q78) (S_q16 : TS_q16) (a_0 : Bool) (a_1 : List Int) (a_2 : Int) (b_0 : Bool) (b_1 : List Int) (b_2 : Int) (k0 : Bool -> Int -> Int -> Bool) (k1 : Bool -> Int -> Int -> List Int -> Bool) : Bool :=
  (S_q149 a_0 a_1 a_2 (fun cr => (cond ((!cr) == false) (S_q149 b_0 b_1 b_2 (fun cr_1 => (cond (!cr_1) (k0 false 0 30) (S_q130 a_0 a_1 a_2 (fun cr_2 nsr => (S_q130 b_0 b_1 b_2 (fun cr_3 nsr_1 => (S_q78 a_2 b_2 cr_2 nsr cr_3 nsr_1 (fun nr cr_4 nsr_2 => (S_q16 nr cr_4 nsr_2 (fun cr_5 nr_1 nr_2 => (k0 cr_5 nr_1 nr_2)) (fun cr_6 nr_3 nr_4 nsr_3 => (k1 cr_6 nr_3 nr_4 nsr_3)))) (S_q16 a_2 cr_2 nsr (fun cr_7 nr_5 nr_6 => (k0 cr_7 nr_5 nr_6)) (fun cr_8 nr_7 nr_8 nsr_4 => (k1 cr_8 nr_7 nr_8 nsr_4))))))))))) (k0 false 0 30))))

def s_q137 (N_ : Nat) : TS_q137 := G_q137 N_ (s_q149 N_) (s_q130 N_) (s_q78 N_) (s_q16 N_)

abbrev TS_q96 : Type := Bool -> List Int -> Int -> Bool -> List Int -> Int -> (Bool -> Int -> Int -> Bool) -> (Bool -> Int -> Int -> List Int -> Bool) -> Bool

def G_q96 (N_ : Nat) (S_q137 : TS_q137) (a_0 : Bool) (a_1 : List Int) (a_2 : Int) (b_0 : Bool) (b_1 : List Int) (b_2 : Int) (k0 : Bool -> Int -> Int -> Bool) (k1 : Bool -> Int -> Int -> List Int -> Bool) : Bool :=
  (S_q137 a_0 a_1 a_2 b_0 b_1 b_2 (fun cr nr nr_1 => (k0 cr nr nr_1)) (fun cr_1 nr_2 nr_3 nsr => (k1 cr_1 nr_2 nr_3 nsr)))

def s_q96 (N_ : Nat) : TS_q96 := G_q96 N_ (s_q137 N_)

abbrev TS_q43 : Type := Bool -> List Int -> Int -> Bool -> List Int -> Int -> (Int -> Int -> Bool) -> Bool

def G_q43 (N_ : Nat) (S_q149 : TS_q149) (S_q130 : TS_q130) (S_q45 : TS_q45) (S_q3 : TS_q3) (S_q4 : TS_q4) (a_0 : Bool) (a_1 : List Int) (a_2 : Int) (b_0 : Bool) (b_1 : List Int) (b_2 : Int) (k0 : Int -> Int -> Bool) : Bool :=
  (S_q149 a_0 a_1 a_2 (fun cr => (cond ((!cr) == false) (S_q149 b_0 b_1 b_2 (fun cr_1 => (cond (!cr_1) (k0 0 30) (S_q130 a_0 a_1 a_2 (fun cr_2 nsr => (S_q130 b_0 b_1 b_2 (fun cr_3 nsr_1 => (S_q45 false cr_3 nsr_1 (fun cr_4 nsr_2 => (S_q3 a_2 b_2 cr_2 nsr cr_4 nsr_2 (S_q4 cr_4 nsr_2 (fun nr => (k0 nr 0))) (S_q4 cr_2 nsr (fun nr_1 => (k0 nr_1 0))) (fun nr_2 cr_5 nsr_3 => (S_q4 cr_5 nsr_3 (fun nr_3 => (k0 nr_3 0)))))))))))))) (k0 0 30))))

def s_q43 (N_ : Nat) : TS_q43 := G_q43 N_ (s_q149 N_) (s_q130 N_) (s_q45 N_) (s_q3 N_) (s_q4 N_)

abbrev TS_q144 : Type := Fl -> Fl -> Fl -> Fl -> (Bool -> Bool) -> Bool

def J_q231 (N_ : Nat) (S_q12 : TS_q12) (S_q30 : TS_q30) (S_q94 : TS_q94) (S_q96 : TS_q96) (S_q43 : TS_q43) (q_0 : Fl) (q_1 : Fl) (q_2 : Fl) (q_3 : Fl) (b7 : List Int) (off_6 : Bool) (off_7 : Int) (k0 : Bool -> Bool) : Bool :=
  (S_q43 false b7 off_7 false [1] (-48) (fun nr_18 nr_19 => (cond ((nr_19 == 0) == true) (k0 (decide (nr_18 <= 0))) (k0 false))))

def J_q230 (N_ : Nat) (S_q12 : TS_q12) (S_q30 : TS_q30) (S_q94 : TS_q94) (S_q96 : TS_q96) (S_q43 : TS_q43) (q_0 : Fl) (q_1 : Fl) (q_2 : Fl) (q_3 : Fl) (off_4 : Bool) (off_5 : Int) (k0 : Bool -> Bool) : Bool :=
  (S_q43 false [] off_5 false [1] (-48) (fun nr_16 nr_17 => (cond ((nr_17 == 0) == true) (k0 (decide (nr_16 <= 0))) (k0 false))))

def J_q215 (N_ : Nat) (S_q12 : TS_q12) (S_q30 : TS_q30) (S_q94 : TS_q94) (S_q96 : TS_q96) (S_q43 : TS_q43) (q_0 : Fl) (q_1 : Fl) (q_2 : Fl) (q_3 : Fl) (b3 : List Int) (n_2 : Bool) (n_3 : Int) (k0 : Bool -> Bool) : Bool :=
  (S_q96 n_2 b3 n_3 false [1] 0 (fun cr_5 nr_12 nr_13 => (cond (nr_13 != 0) (k0 false) (J_q230 N_ S_q12 S_q30 S_q94 S_q96 S_q43 q_0 q_1 q_2 q_3 cr_5 nr_12 k0))) (fun cr_6 nr_14 nr_15 nsr_2 => (cond (nr_15 != 0) (k0 false) (J_q231 N_ S_q12 S_q30 S_q94 S_q96 S_q43 q_0 q_1 q_2 q_3 nsr_2 cr_6 nr_14 k0))))

def J_q229 (N_ : Nat) (S_q12 : TS_q12) (S_q30 : TS_q30) (S_q94 : TS_q94) (S_q96 : TS_q96) (S_q43 : TS_q43) (q_0 : Fl) (q_1 : Fl) (q_2 : Fl) (q_3 : Fl) (b6 : List Int) (off_2 : Bool) (off_3 : Int) (k0 : Bool -> Bool) : Bool :=
  (S_q43 false b6 off_3 false [1] (-48) (fun nr_10 nr_11 => (cond ((nr_11 == 0) == true) (k0 (decide (nr_10 <= 0))) (k0 false))))

def J_q228 (N_ : Nat) (S_q12 : TS_q12) (S_q30 : TS_q30) (S_q94 : TS_q94) (S_q96 : TS_q96) (S_q43 : TS_q43) (q_0 : Fl) (q_1 : Fl) (q_2 : Fl) (q_3 : Fl) (off : Bool) (off_1 : Int) (k0 : Bool -> Bool) : Bool :=
  (S_q43 false [] off_1 false [1] (-48) (fun nr_8 nr_9 => (cond ((nr_9 == 0) == true) (k0 (decide (nr_8 <= 0))) (k0 false))))

def J_q214 (N_ : Nat) (S_q12 : TS_q12) (S_q30 : TS_q30) (S_q94 : TS_q94) (S_q96 : TS_q96) (S_q43 : TS_q43) (q_0 : Fl) (q_1 : Fl) (q_2 : Fl) (q_3 : Fl) (n : Bool) (n_1 : Int) (k0 : Bool -> Bool) : Bool :=
  (S_q96 n [] n_1 false [1] 0 (fun cr_3 nr_4 nr_5 => (cond (nr_5 != 0) (k0 false) (J_q228 N_ S_q12 S_q30 S_q94 S_q96 S_q43 q_0 q_1 q_2 q_3 cr_3 nr_4 k0))) (fun cr_4 nr_6 nr_7 nsr_1 => (cond (nr_7 != 0) (k0 false) (J_q229 N_ S_q12 S_q30 S_q94 S_q96 S_q43 q_0 q_1 q_2 q_3 nsr_1 cr_4 nr_6 k0))))

def G_q144 (N_ : Nat) (S_q12 : TS_q12) (S_q30 : TS_q30) (S_q94 : TS_q94) (S_q96 : TS_q96) (S_q43 : TS_q43) (q_0 : Fl) (q_1 : Fl) (q_2 : Fl) (q_3 : Fl) (k0 : Bool -> Bool) : Bool :=
  (S_q12 q_0 q_1 q_2 q_3 (fun cr => (cond (!cr) (k0 false) (S_q30 q_0 q_1 q_2 q_3 (S_q94 [q_0, q_1, q_2, q_3] [q_0, q_1, q_2, q_3] (fun cr_1 nr nr_1 => (cond (nr_1 != 0) (k0 false) (J_q214 N_ S_q12 S_q30 S_q94 S_q96 S_q43 q_0 q_1 q_2 q_3 cr_1 nr k0))) (fun cr_2 nr_2 nr_3 nsr => (cond (nr_3 != 0) (k0 false) (J_q215 N_ S_q12 S_q30 S_q94 S_q96 S_q43 q_0 q_1 q_2 q_3 nsr cr_2 nr_2 k0))))))))

def s_q144 (N_ : Nat) : TS_q144 := G_q144 N_ (s_q12 N_) (s_q30 N_) (s_q94 N_) (s_q96 N_) (s_q43 N_)

abbrev TS_q88 : Type := (Fl -> Fl -> Fl -> Fl -> Bool) -> Bool

def G_q88 (N_ : Nat) (k0 : Fl -> Fl -> Fl -> Fl -> Bool) : Bool :=
  (k0 (some 4611686018427387904) (some 0) (some 0) (some 0))

def s_q88 (N_ : Nat) : TS_q88 := G_q88 N_

abbrev TS_q51 : Type := (Bool -> Bool) -> Bool

def G_q51 (N_ : Nat) (S_q63 : TS_q63) (S_q115 : TS_q115) (S_q180 : TS_q180) (S_q144 : TS_q144) (S_q88 : TS_q88) (k0 : Bool -> Bool) : Bool :=
  (S_q63 (some 0) (some 4613937818241073152) (some 4616189618054758400) (some 0) (fun xr xr_1 xr_2 xr_3 nr => (S_q115 (some 4602678819172646912) (some 4602678819172646912) (some 4602678819172646912) (some 4602678819172646912) (some 4607182418800017408) (some 4611686018427387904) (some 4613937818241073152) (fun xr_4 xr_5 xr_6 nr_1 => (S_q180 (some 0) (some 4607182418800017408) (some 0) (some 0) (some 0) (some 0) (some 4607182418800017408) (some 0) (fun xr_7 xr_8 xr_9 xr_10 nr_2 => (cond ((nr == 0) == true) (cond ((feq xr_1 (some 4603579539098121011)) == true) (cond ((feq xr_2 (some 4605380978949069210)) == true) (cond ((nr_1 == 0) == true) (cond ((feq xr_4 (some 4613937818241073152)) == true) (cond ((feq xr_5 (some 4607182418800017408)) == true) (cond ((feq xr_6 (some 4611686018427387904)) == true) (cond ((nr_2 == 0) == true) (cond ((feq xr_10 (some 4607182418800017408)) == true) (cond ((feq xr_7 (some 0)) == true) (S_q144 (some 4602678819172646912) (some 4602678819172646912) (some 4602678819172646912) (some 4602678819172646912) (fun cr => (cond (cr == true) (S_q88 (fun xr_11 xr_12 xr_13 xr_14 => (S_q144 xr_11 xr_12 xr_13 xr_14 (fun cr_1 => (k0 (!cr_1)))))) (k0 false)))) (k0 false)) (k0 false)) (k0 false)) (k0 false)) (k0 false)) (k0 false)) (k0 false)) (k0 false)) (k0 false)) (k0 false))))))))

def s_q51 (N_ : Nat) : TS_q51 := G_q51 N_ (s_q63 N_) (s_q115 N_) (s_q180 N_) (s_q144 N_) (s_q88 N_)

abbrev TS_q132 : Type := Fl -> Fl -> Fl -> Fl -> Fl -> Fl -> (Fl -> Fl -> Fl -> Int -> Bool) -> Bool

def G_q132 (N_ : Nat) (S_q13 : TS_q13) (S_q49 : TS_q49) (S_q121 : TS_q121) (a_0 : Fl) (a_1 : Fl) (a_2 : Fl) (b_0 : Fl) (b_1 : Fl) (b_2 : Fl) (k0 : Fl -> Fl -> Fl -> Int -> Bool) : Bool :=
  (S_q13 [a_0, a_1, a_2] (fun cr => (cond ((!cr) == false) (S_q13 [b_0, b_1, b_2] (fun cr_1 => (cond (!cr_1) (k0 (some 0) (some 0) (some 0) 4) (S_q49 a_0 a_1 a_2 b_0 b_1 b_2 (fun xr xr_1 xr_2 => (S_q121 xr xr_1 xr_2 (fun xr_3 xr_4 xr_5 nr => (k0 xr_3 xr_4 xr_5 nr)))))))) (k0 (some 0) (some 0) (some 0) 4))))

def s_q132 (N_ : Nat) : TS_q132 := G_q132 N_ (s_q13 N_) (s_q49 N_) (s_q121 N_)

abbrev TS_q141 : Type := Fl -> Fl -> Fl -> Fl -> Fl -> Fl -> (Fl -> Fl -> Fl -> Int -> Bool) -> Bool

def G_q141 (N_ : Nat) (S_q14 : TS_q14) (S_q23 : TS_q23) (S_q66 : TS_q66) (S_q71 : TS_q71) (a_0 : Fl) (a_1 : Fl) (a_2 : Fl) (b_0 : Fl) (b_1 : Fl) (b_2 : Fl) (k0 : Fl -> Fl -> Fl -> Int -> Bool) : Bool :=
  (S_q14 a_0 a_1 a_2 (fun cr => (S_q14 b_0 b_1 b_2 (fun cr_1 => (S_q23 cr cr_1 (fun nr => (cond (nr != 0) (k0 (some 0) (some 0) (some 0) nr) (S_q66 a_0 a_1 a_2 b_0 b_1 b_2 (fun xr xr_1 xr_2 => (S_q71 xr xr_1 xr_2 (fun xr_3 xr_4 xr_5 nr_1 => (k0 xr_3 xr_4 xr_5 nr_1))))))))))))

def s_q141 (N_ : Nat) : TS_q141 := G_q141 N_ (s_q14 N_) (s_q23 N_) (s_q66 N_) (s_q71 N_)

abbrev TS_q133 : Type := Fl -> Fl -> Fl -> Fl -> (Fl -> Fl -> Fl -> Int -> Bool) -> Bool

def G_q133 (N_ : Nat) (S_q12 : TS_q12) (S_q13 : TS_q13) (S_q121 : TS_q121) (q_0 : Fl) (q_1 : Fl) (q_2 : Fl) (q_3 : Fl) (k0 : Fl -> Fl -> Fl -> Int -> Bool) : Bool :=
  (S_q12 q_0 q_1 q_2 q_3 (fun cr => (cond (!cr) (k0 (some 0) (some 0) (some 0) 4) (cond (feq q_0 (some 0)) (k0 (some 0) (some 0) (some 0) 120) (S_q13 [(fmul q_1 (some 4611686018427387904)), (fmul q_2 (some 4611686018427387904)), (fmul q_3 (some 4611686018427387904))] (fun cr_1 => (cond (!cr_1) (k0 (some 0) (some 0) (some 0) 5) (S_q121 (fdiv (fmul q_1 (some 4611686018427387904)) q_0) (fdiv (fmul q_2 (some 4611686018427387904)) q_0) (fdiv (fmul q_3 (some 4611686018427387904)) q_0) (fun xr xr_1 xr_2 nr => (k0 xr xr_1 xr_2 nr))))))))))

def s_q133 (N_ : Nat) : TS_q133 := G_q133 N_ (s_q12 N_) (s_q13 N_) (s_q121 N_)

abbrev TS_q36 : Type := Bool -> (Int -> Bool) -> Bool

def G_q36 (N_ : Nat) (ok : Bool) (k0 : Int -> Bool) : Bool :=
  (cond (!ok) (k0 4) (k0 0))

def s_q36 (N_ : Nat) : TS_q36 := G_q36 (N_ + 24)

abbrev TS_q142 : Type := Fl -> Fl -> Fl -> Fl -> (Fl -> Fl -> Fl -> Int -> Bool) -> Bool

def G_q142 (N_ : Nat) (S_q87 : TS_q87) (S_q36 : TS_q36) (S_q71 : TS_q71) (q_0 : Fl) (q_1 : Fl) (q_2 : Fl) (q_3 : Fl) (k0 : Fl -> Fl -> Fl -> Int -> Bool) : Bool :=
  (S_q87 q_0 q_1 q_2 q_3 (fun cr => (S_q36 cr (fun nr => (cond (nr != 0) (k0 (some 0) (some 0) (some 0) nr) (cond (feq q_0 (some 0)) (k0 (some 0) (some 0) (some 0) 120) (S_q71 (fdiv (fmul q_1 (some 4611686018427387904)) q_0) (fdiv (fmul q_2 (some 4611686018427387904)) q_0) (fdiv (fmul q_3 (some 4611686018427387904)) q_0) (fun xr xr_1 xr_2 nr_1 => (k0 xr xr_1 xr_2 nr_1)))))))))

def s_q142 (N_ : Nat) : TS_q142 := G_q142 N_ (s_q87 N_) (s_q36 N_) (s_q71 N_)

abbrev TS_q114 : Type := Fl -> Fl -> Fl -> (Fl -> Fl -> Fl -> Fl -> Int -> Bool) -> Bool

def G_q114 (N_ : Nat) (S_q63 : TS_q63) (v_0 : Fl) (v_1 : Fl) (v_2 : Fl) (k0 : Fl -> Fl -> Fl -> Fl -> Int -> Bool) : Bool :=
  (S_q63 (some 4607182418800017408) (fdiv v_0 (some 4611686018427387904)) (fdiv v_1 (some 4611686018427387904)) (fdiv v_2 (some 4611686018427387904)) (fun xr xr_1 xr_2 xr_3 nr => (k0 xr xr_1 xr_2 xr_3 nr)))

def s_q114 (N_ : Nat) : TS_q114 := G_q114 N_ (s_q63 N_)

abbrev TS_q122 : Type := List Fl -> (Int -> Bool -> Bool) -> Bool

def st_z10_Power_0 (N_ : Nat) (S_m_Abs : TS_m_Abs) (S_q100 : TS_q100) (x_1 : List Fl) (e0 : Fl -> Bool) : (Fl × Int) -> ((Fl × Int) -> Bool) -> Bool := fun v_ K => match v_ with
  | (m, i) => (cond (decide (i < (((List.length x_1) : Nat) : Int))) ((inR i (List.length x_1)) && (S_m_Abs (List.getD x_1 (Int.toNat i) none) (fun xr => ((fits .i64 (i + 1)) && (K ((fmm true m xr), (i + 1))))))) (e0 m))

def G_q122 (N_ : Nat) (S_m_Abs : TS_m_Abs) (S_q100 : TS_q100) (x : List Fl) (k0 : Int -> Bool -> Bool) : Bool :=
  (iterG N_ (st_z10_Power_0 N_ S_m_Abs S_q100 x (fun m_1 => (cond (feq m_1 (some 0)) (k0 0 false) (S_q100 m_1 (fun xr_1 nr => ((fits .i64 (nr - 1)) && (k0 (nr - 1) true))))))) ((some 0), 0))

def s_q122 (N_ : Nat) : TS_q122 := G_q122 N_ (s_m_Abs N_) (s_q100 N_)

abbrev TS_q119 : Type := (Bool) -> Bool

def G_q119 (N_ : Nat) (k0 : Bool) : Bool :=
  k0

def s_q119 (N_ : Nat) : TS_q119 := G_q119 N_

abbrev TS_q101 : Type := (Bool) -> Bool

def G_q101 (N_ : Nat) (k0 : Bool) : Bool :=
  k0

def s_q101 (N_ : Nat) : TS_q101 := G_q101 N_

abbrev TS_q21 : Type := List Int -> (Nat -> Nat -> Bool) -> Bool

def st_q226 (N_ : Nat) (m_1 : Nat) (m_3 : List Int) (e0 : Nat -> Bool) : (Nat) -> ((Nat) -> Bool) -> Bool := fun v_ K => match v_ with
  | m_2 => (cond ((decide (((m_2 : Nat) : Int) > 0)) == true) ((fits .i64 (((m_2 : Nat) : Int) - 1)) && ((inR (((m_2 : Nat) : Int) - 1) m_2) && ((decide ((m_1 + (Int.toNat (((m_2 : Nat) : Int) - 1))) < (List.length m_3))) && (cond ((List.getD m_3 (m_1 + (Int.toNat (((m_2 : Nat) : Int) - 1))) 0) == 0) ((fits .i64 (((m_2 : Nat) : Int) - 1)) && ((decide (0 <= (((m_2 : Nat) : Int) - 1) /\ (((m_2 : Nat) : Int) - 1) <= ((m_2 : Nat) : Int))) && (K ((Int.toNat (((m_2 : Nat) : Int) - 1)) - 0)))) (e0 m_2))))) (e0 m_2))

def G_q21 (N_ : Nat) (b : List Int) (k0 : Nat -> Nat -> Bool) : Bool :=
  (iterG N_ (st_q226 N_ 0 b (fun m_4 => (k0 0 m_4))) (List.length b))

def s_q21 (N_ : Nat) : TS_q21 := G_q21 N_

abbrev TS_q106 : Type := Int -> (List Int -> Bool) -> Bool

def G_q106 (N_ : Nat) (S_q21 : TS_q21) (n : Int) (k0 : List Int -> Bool) : Bool :=
  (S_q21 [(IntKind.wrap .u32 n), (IntKind.wrap .u32 (Int.fdiv n (2 ^ 32)))] (fun mr mr_1 => ((decide ((mr + mr_1) <= (List.length [(IntKind.wrap .u32 n), (IntKind.wrap .u32 (Int.fdiv n (2 ^ 32)))]))) && (k0 (List.take mr_1 (List.drop mr [(IntKind.wrap .u32 n), (IntKind.wrap .u32 (Int.fdiv n (2 ^ 32)))]))))))

def s_q106 (N_ : Nat) : TS_q106 := G_q106 N_ (s_q21 N_)

abbrev TS_q168 : Type := List Int -> (List Int -> Bool) -> Bool

def st_z00_cut_0 (N_ : Nat) (e0 : List Int -> Bool) : (List Int) -> ((List Int) -> Bool) -> Bool := fun v_ K => match v_ with
  | m_1 => (cond ((decide ((((List.length m_1) : Nat) : Int) > 0)) == true) ((fits .i64 ((((List.length m_1) : Nat) : Int) - 1)) && ((inR ((((List.length m_1) : Nat) : Int) - 1) (List.length m_1)) && (cond ((List.getD m_1 (Int.toNat ((((List.length m_1) : Nat) : Int) - 1)) 0) == 0) ((fits .i64 ((((List.length m_1) : Nat) : Int) - 1)) && ((decide (0 <= ((((List.length m_1) : Nat) : Int) - 1) /\ ((((List.length m_1) : Nat) : Int) - 1) <= (((List.length m_1) : Nat) : Int))) && (K (List.drop 0 (List.take (Int.toNat ((((List.length m_1) : Nat) : Int) - 1)) m_1))))) (e0 m_1)))) (e0 m_1))

def G_q168 (N_ : Nat) (m : List Int) (k0 : List Int -> Bool) : Bool :=
  (iterG N_ (st_z00_cut_0 N_ (fun m_2 => (k0 m_2))) m)

def s_q168 (N_ : Nat) : TS_q168 := G_q168 N_

abbrev TS_q53 : Type := Bool -> List Int -> Bool -> (Bool -> List Int -> Bool) -> Bool

def G_q53 (N_ : Nat) (S_q168 : TS_q168) (neg : Bool) (m : List Int) (b : Bool) (k0 : Bool -> List Int -> Bool) : Bool :=
  (S_q168 m (fun nsr => (cond (neg == true) (k0 (decide ((((List.length nsr) : Nat) : Int) > 0)) nsr) (k0 false nsr))))

def s_q53 (N_ : Nat) : TS_q53 := G_q53 N_ (s_q168 N_)

abbrev TS_q76 : Type := Int -> Bool -> (Bool -> List Int -> Bool) -> Bool

def G_q76 (N_ : Nat) (S_q106 : TS_q106) (S_q53 : TS_q53) (n : Int) (b : Bool) (k0 : Bool -> List Int -> Bool) : Bool :=
  (S_q106 n (fun nsr => (S_q53 false nsr b (fun cr nsr_1 => (k0 cr nsr_1)))))

def s_q76 (N_ : Nat) : TS_q76 := G_q76 N_ (s_q106 N_) (s_q53 N_)

abbrev TS_q64 : Type := Bool -> List Int -> Bool -> List Int -> (Bool -> List Int -> Bool) -> Bool

def G_q64 (N_ : Nat) (S_q168 : TS_q168) (neg : Bool) (m : List Int) (b : Bool) (b_1 : List Int) (k0 : Bool -> List Int -> Bool) : Bool :=
  (S_q168 m (fun nsr => (cond (neg == true) (k0 (decide ((((List.length nsr) : Nat) : Int) > 0)) nsr) (k0 false nsr))))

def s_q64 (N_ : Nat) : TS_q64 := G_q64 N_ (s_q168 N_)

abbrev TS_q80 : Type := Int -> Bool -> List Int -> (Bool -> List Int -> Bool) -> Bool

def G_q80 (N_ : Nat) (S_q106 : TS_q106) (S_q64 : TS_q64) (n : Int) (b : Bool) (b_1 : List Int) (k0 : Bool -> List Int -> Bool) : Bool :=
  (S_q106 n (fun nsr => (S_q64 false nsr b b_1 (fun cr nsr_1 => (k0 cr nsr_1)))))

def s_q80 (N_ : Nat) : TS_q80 := G_q80 N_ (s_q106 N_) (s_q64 N_)

abbrev TS_q156 : Type := Int -> (Bool -> Bool) -> (Bool -> Bool -> List Int -> Bool) -> (Bool -> Int -> Bool -> List Int -> Bool) -> (Bool -> Bool -> List Int -> Bool) -> Bool

def G_q156 (N_ : Nat) (S_q76 : TS_q76) (S_q80 : TS_q80) (bits : Int) (k0 : Bool -> Bool) (k1 : Bool -> Bool -> List Int -> Bool) (k2 : Bool -> Int -> Bool -> List Int -> Bool) (k3 : Bool -> Bool -> List Int -> Bool) : Bool :=
  ((fits .i64 (bitsN .and .u64 (Int.fdiv bits (2 ^ 52)) 2047)) && (S_q76 (bitsN .and .u64 bits 4503599627370495) false (fun cr nsr => (cond ((bitsN .and .u64 (Int.fdiv bits (2 ^ 52)) 2047) == 2047) (cond ((bitsN .and .u64 bits 4503599627370495) != 0) (k0 false) (k1 ((bitsN .and .u64 (Int.fdiv bits (2 ^ 63)) 1) == 1) cr nsr)) (cond (decide ((bitsN .and .u64 (Int.fdiv bits (2 ^ 52)) 2047) > 0)) (S_q80 (bitsN .or .u64 (bitsN .and .u64 bits 4503599627370495) 4503599627370496) cr nsr (fun cr_1 nsr_1 => ((fits .i64 ((bitsN .and .u64 (Int.fdiv bits (2 ^ 52)) 2047) - 1)) && ((fits .i64 (((bitsN .and .u64 (Int.fdiv bits (2 ^ 52)) 2047) - 1) + (-1022))) && ((fits .i64 ((((bitsN .and .u64 (Int.fdiv bits (2 ^ 52)) 2047) - 1) + (-1022)) - 53)) && ((fits .i64 (((((bitsN .and .u64 (Int.fdiv bits (2 ^ 52)) 2047) - 1) + (-1022)) - 53) + 1)) && (k2 ((bitsN .and .u64 (Int.fdiv bits (2 ^ 63)) 1) == 1) (((((bitsN .and .u64 (Int.fdiv bits (2 ^ 52)) 2047) - 1) + (-1022)) - 53) + 1) cr_1 nsr_1))))))) (k3 ((bitsN .and .u64 (Int.fdiv bits (2 ^ 63)) 1) == 1) cr nsr))))))

def s_q156 (N_ : Nat) : TS_q156 := G_q156 N_ (s_q76 N_) (s_q80 N_)

abbrev TS_q175 : Type := (Int -> Bool) -> Bool

def G_q175 (N_ : Nat) (k0 : Int -> Bool) : Bool :=
  (k0 9221120237041090561)

def s_q175 (N_ : Nat) : TS_q175 := G_q175 N_

abbrev TS_q164 : Type := Bool -> (Int -> Int -> Bool) -> Bool

def G_q164 (N_ : Nat) (S_q175 : TS_q175) (b : Bool) (k0 : Int -> Int -> Bool) : Bool :=
  (S_q175 (fun nr => (k0 nr 0)))

def s_q164 (N_ : Nat) : TS_q164 := G_q164 N_ (s_q175 N_)

abbrev TS_q68 : Type := Bool -> Int -> Int -> (Int -> Bool) -> Bool

def G_q68 (N_ : Nat) (neg : Bool) (field : Int) (frac : Int) (k0 : Int -> Bool) : Bool :=
  (cond neg (k0 (bitsN .or .u64 (bitsN .or .u64 (IntKind.wrap .u64 ((IntKind.wrap .u64 field) * 2 ^ 52)) frac) 9223372036854775808)) (k0 (bitsN .or .u64 (IntKind.wrap .u64 ((IntKind.wrap .u64 field) * 2 ^ 52)) frac)))

def s_q68 (N_ : Nat) : TS_q68 := G_q68 N_

abbrev TS_q104 : Type := Bool -> (Int -> Bool) -> Bool

def G_q104 (N_ : Nat) (S_q68 : TS_q68) (neg : Bool) (k0 : Int -> Bool) : Bool :=
  (S_q68 neg 2047 0 (fun nr => (k0 nr)))

def s_q104 (N_ : Nat) : TS_q104 := G_q104 N_ (s_q68 N_)

abbrev TS_q99 : Type := Bool -> List Int -> (Int -> Bool) -> Bool

def G_q99 (N_ : Nat) (b : Bool) (b_1 : List Int) (k0 : Int -> Bool) : Bool :=
  (cond ((((List.length b_1) : Nat) : Int) == 0) (k0 0) (cond b (k0 (-1)) (k0 1)))

def s_q99 (N_ : Nat) : TS_q99 := G_q99 N_

abbrev TS_q167 : Type := Int -> Bool -> Int -> Bool -> List Int -> (Bool -> Bool) -> Bool

def G_q167 (N_ : Nat) (S_q99 : TS_q99) (n_0 : Int) (n_1 : Bool) (n_2 : Int) (b : Bool) (b_1 : List Int) (k0 : Bool -> Bool) : Bool :=
  (cond ((n_0 == 0) == true) (S_q99 b b_1 (fun nr => (k0 (nr == 0)))) (k0 false))

def s_q167 (N_ : Nat) : TS_q167 := G_q167 N_ (s_q99 N_)

abbrev TS_q169 : Type := Bool -> (Int -> Bool) -> Bool

def G_q169 (N_ : Nat) (S_q68 : TS_q68) (neg : Bool) (k0 : Int -> Bool) : Bool :=
  (S_q68 neg 0 0 (fun nr => (k0 nr)))

def s_q169 (N_ : Nat) : TS_q169 := G_q169 N_ (s_q68 N_)

abbrev TS_q125 : Type := Int -> (Int -> Bool) -> Bool

def G_q125 (N_ : Nat) (x : Int) (k0 : Int -> Bool) : Bool :=
  (cond (decide (x >= 65536)) (cond (decide ((Int.fdiv x (2 ^ 16)) >= 256)) ((inR (IntKind.wrap .u8 (Int.fdiv (Int.fdiv x (2 ^ 16)) (2 ^ 8))) 256) && ((fits .i64 (List.getD strTab_11c1601c (Int.toNat (IntKind.wrap .u8 (Int.fdiv (Int.fdiv x (2 ^ 16)) (2 ^ 8)))) 0)) && ((fits .i64 (24 + (List.getD strTab_11c1601c (Int.toNat (IntKind.wrap .u8 (Int.fdiv (Int.fdiv x (2 ^ 16)) (2 ^ 8)))) 0))) && (k0 (24 + (List.getD strTab_11c1601c (Int.toNat (IntKind.wrap .u8 (Int.fdiv (Int.fdiv x (2 ^ 16)) (2 ^ 8)))) 0)))))) ((inR (IntKind.wrap .u8 (Int.fdiv x (2 ^ 16))) 256) && ((fits .i64 (List.getD strTab_11c1601c (Int.toNat (IntKind.wrap .u8 (Int.fdiv x (2 ^ 16)))) 0)) && ((fits .i64 (16 + (List.getD strTab_11c1601c (Int.toNat (IntKind.wrap .u8 (Int.fdiv x (2 ^ 16)))) 0))) && (k0 (16 + (List.getD strTab_11c1601c (Int.toNat (IntKind.wrap .u8 (Int.fdiv x (2 ^ 16)))) 0))))))) (cond (decide (x >= 256)) ((inR (IntKind.wrap .u8 (Int.fdiv x (2 ^ 8))) 256) && ((fits .i64 (List.getD strTab_11c1601c (Int.toNat (IntKind.wrap .u8 (Int.fdiv x (2 ^ 8)))) 0)) && ((fits .i64 (8 + (List.getD strTab_11c1601c (Int.toNat (IntKind.wrap .u8 (Int.fdiv x (2 ^ 8)))) 0))) && (k0 (8 + (List.getD strTab_11c1601c (Int.toNat (IntKind.wrap .u8 (Int.fdiv x (2 ^ 8)))) 0)))))) ((inR (IntKind.wrap .u8 x) 256) && ((fits .i64 (List.getD strTab_11c1601c (Int.toNat (IntKind.wrap .u8 x)) 0)) && ((fits .i64 (0 + (List.getD strTab_11c1601c (Int.toNat (IntKind.wrap .u8 x)) 0))) && (k0 (0 + (List.getD strTab_11c1601c (Int.toNat (IntKind.wrap .u8 x)) 0))))))))

def s_q125 (N_ : Nat) : TS_q125 := G_q125 N_

abbrev TS_q5 : Type := Bool -> List Int -> (Int -> Bool) -> Bool

def G_q5 (N_ : Nat) (S_q125 : TS_q125) (b : Bool) (b_1 : List Int) (k0 : Int -> Bool) : Bool :=
  (cond ((((List.length b_1) : Nat) : Int) == 0) (k0 0) ((fits .i64 ((((List.length b_1) : Nat) : Int) - 1)) && ((fits .i64 (32 * ((((List.length b_1) : Nat) : Int) - 1))) && ((fits .i64 ((((List.length b_1) : Nat) : Int) - 1)) && ((inR ((((List.length b_1) : Nat) : Int) - 1) (List.length b_1)) && (S_q125 (List.getD b_1 (Int.toNat ((((List.length b_1) : Nat) : Int) - 1)) 0) (fun nr => ((fits .i64 ((32 * ((((List.length b_1) : Nat) : Int) - 1)) + nr)) && (k0 ((32 * ((((List.length b_1) : Nat) : Int) - 1)) + nr))))))))))

def s_q5 (N_ : Nat) : TS_q5 := G_q5 N_ (s_q125 N_)

abbrev TS_q128 : Type := Bool -> Bool -> List Int -> (Bool -> Nat -> Nat -> Bool) -> Bool

def G_q128 (N_ : Nat) (S_q21 : TS_q21) (neg : Bool) (b : Bool) (b_1 : List Int) (k0 : Bool -> Nat -> Nat -> Bool) : Bool :=
  (S_q21 b_1 (fun mr mr_1 => (cond (neg == true) (k0 (decide (((mr_1 : Nat) : Int) > 0)) mr mr_1) (k0 false mr mr_1))))

def s_q128 (N_ : Nat) : TS_q128 := G_q128 N_ (s_q21 N_)

abbrev TS_q8 : Type := Bool -> Bool -> List Int -> (Bool -> List Int -> Bool) -> Bool

def G_q8 (N_ : Nat) (S_q128 : TS_q128) (b : Bool) (b_1 : Bool) (b_2 : List Int) (k0 : Bool -> List Int -> Bool) : Bool :=
  ((decide ((List.length ([] ++ b_2)) * 4 <= 140737488355328)) && (S_q128 b_1 b ([] ++ b_2) (fun cr mr mr_1 => ((decide ((mr + mr_1) <= (List.length ([] ++ b_2)))) && (k0 cr (List.take mr_1 (List.drop mr ([] ++ b_2))))))))

def s_q8 (N_ : Nat) : TS_q8 := G_q8 N_ (s_q128 N_)

abbrev TS_q139 : Type := List Int -> Int -> (List Int -> Bool) -> Bool

def st_z00_left_0 (N_ : Nat) (S_q21 : TS_q21) (m_1 : List Int) (w : Int) (s : Int) (e0 : List Int -> Bool) : (Int × List Int) -> ((Int × List Int) -> Bool) -> Bool := fun v_ K => match v_ with
  | (i, out) => (cond (decide (i < (((List.length m_1) : Nat) : Int))) ((inR i (List.length m_1)) && ((decide (0 <= s)) && ((fits .i64 (w + i)) && ((inR (w + i) (List.length out)) && ((decide ((Int.toNat (w + i)) < (List.length out))) && ((inR (w + i) (List.length out)) && ((decide ((Int.toNat (w + i)) < (List.length out))) && ((fits .i64 (w + i)) && ((fits .i64 ((w + i) + 1)) && ((inR ((w + i) + 1) (List.length (List.set out (Int.toNat (w + i)) (bitsN .or .u32 (List.getD out (Int.toNat (w + i)) 0) (IntKind.wrap .u32 (IntKind.wrap .u64 ((IntKind.wrap .u64 (List.getD m_1 (Int.toNat i) 0)) * 2 ^ (min (Int.toNat s) 64)))))))) && ((decide ((Int.toNat ((w + i) + 1)) < (List.length (List.set out (Int.toNat (w + i)) (bitsN .or .u32 (List.getD out (Int.toNat (w + i)) 0) (IntKind.wrap .u32 (IntKind.wrap .u64 ((IntKind.wrap .u64 (List.getD m_1 (Int.toNat i) 0)) * 2 ^ (min (Int.toNat s) 64))))))))) && ((fits .i64 (i + 1)) && (K ((i + 1), (List.set (List.set out (Int.toNat (w + i)) (bitsN .or .u32 (List.getD out (Int.toNat (w + i)) 0) (IntKind.wrap .u32 (IntKind.wrap .u64 ((IntKind.wrap .u64 (List.getD m_1 (Int.toNat i) 0)) * 2 ^ (min (Int.toNat s) 64)))))) (Int.toNat ((w + i) + 1)) (IntKind.wrap .u32 (Int.fdiv (IntKind.wrap .u64 ((IntKind.wrap .u64 (List.getD m_1 (Int.toNat i) 0)) * 2 ^ (min (Int.toNat s) 64))) (2 ^ 32)))))))))))))))))) (e0 out))

def G_q139 (N_ : Nat) (S_q21 : TS_q21) (m : List Int) (n : Int) (k0 : List Int -> Bool) : Bool :=
  (cond ((((List.length m) : Nat) : Int) == 0) (k0 []) ((fits .i64 (IntKind.wrap .u64 (Int.tdiv n 32))) && ((fits .i64 ((IntKind.wrap .u64 (Int.tdiv n 32)) + (((List.length m) : Nat) : Int))) && ((fits .i64 (((IntKind.wrap .u64 (Int.tdiv n 32)) + (((List.length m) : Nat) : Int)) + 1)) && ((mkOk 4 (((IntKind.wrap .u64 (Int.tdiv n 32)) + (((List.length m) : Nat) : Int)) + 1) (((IntKind.wrap .u64 (Int.tdiv n 32)) + (((List.length m) : Nat) : Int)) + 1)) && (iterG N_ (st_z00_left_0 N_ S_q21 m (IntKind.wrap .u64 (Int.tdiv n 32)) (Int.tmod n 32) (fun out_1 => (S_q21 out_1 (fun mr mr_1 => ((decide ((mr + mr_1) <= (List.length out_1))) && (k0 (List.take mr_1 (List.drop mr out_1)))))))) (0, (List.replicate (Int.toNat (((IntKind.wrap .u64 (Int.tdiv n 32)) + (((List.length m) : Nat) : Int)) + 1)) (0 : Int)))))))))

def s_q139 (N_ : Nat) : TS_q139 := G_q139 N_ (s_q21 N_)

abbrev TS_q10 : Type := Int -> Bool -> List Int -> (Bool -> List Int -> Bool) -> Bool

def G_q10 (N_ : Nat) (S_q139 : TS_q139) (S_q64 : TS_q64) (n : Int) (b : Bool) (b_1 : List Int) (k0 : Bool -> List Int -> Bool) : Bool :=
  (S_q139 b_1 n (fun nsr => (S_q64 b nsr b b_1 (fun cr nsr_1 => (k0 cr nsr_1)))))

def s_q10 (N_ : Nat) : TS_q10 := G_q10 N_ (s_q139 N_) (s_q64 N_)

abbrev TS_q126 : Type := List Int -> Int -> (List Int -> Bool) -> Bool

def st_z00_right_0 (N_ : Nat) (S_q21 : TS_q21) (m_1 : List Int) (w : Int) (s : Int) (e0 : List Int -> Bool) : (Int × List Int) -> ((Int × List Int) -> Bool) -> Bool := fun v_ K => match v_ with
  | (i, out) => (cond (decide (i < (((List.length out) : Nat) : Int))) ((fits .i64 (w + i)) && ((inR (w + i) (List.length m_1)) && ((fits .i64 (w + i)) && ((fits .i64 ((w + i) + 1)) && (cond (decide (((w + i) + 1) < (((List.length m_1) : Nat) : Int))) ((fits .i64 (w + i)) && ((fits .i64 ((w + i) + 1)) && ((inR ((w + i) + 1) (List.length m_1)) && ((decide (0 <= s)) && ((inR i (List.length out)) && ((decide ((Int.toNat i) < (List.length out))) && ((fits .i64 (i + 1)) && (K ((i + 1), (List.set out (Int.toNat i) (IntKind.wrap .u32 (Int.fdiv (bitsN .or .u64 (IntKind.wrap .u64 (List.getD m_1 (Int.toNat (w + i)) 0)) (IntKind.wrap .u64 ((IntKind.wrap .u64 (List.getD m_1 (Int.toNat ((w + i) + 1)) 0)) * 2 ^ 32))) (2 ^ (min (Int.toNat s) 64)))))))))))))) ((decide (0 <= s)) && ((inR i (List.length out)) && ((decide ((Int.toNat i) < (List.length out))) && ((fits .i64 (i + 1)) && (K ((i + 1), (List.set out (Int.toNat i) (IntKind.wrap .u32 (Int.fdiv (IntKind.wrap .u64 (List.getD m_1 (Int.toNat (w + i)) 0)) (2 ^ (min (Int.toNat s) 64)))))))))))))))) (e0 out))

def G_q126 (N_ : Nat) (S_q21 : TS_q21) (m : List Int) (n : Int) (k0 : List Int -> Bool) : Bool :=
  ((fits .i64 (IntKind.wrap .u64 (Int.tdiv n 32))) && (cond (decide ((IntKind.wrap .u64 (Int.tdiv n 32)) >= (((List.length m) : Nat) : Int))) (k0 []) ((fits .i64 ((((List.length m) : Nat) : Int) - (IntKind.wrap .u64 (Int.tdiv n 32)))) && ((mkOk 4 ((((List.length m) : Nat) : Int) - (IntKind.wrap .u64 (Int.tdiv n 32))) ((((List.length m) : Nat) : Int) - (IntKind.wrap .u64 (Int.tdiv n 32)))) && (iterG N_ (st_z00_right_0 N_ S_q21 m (IntKind.wrap .u64 (Int.tdiv n 32)) (Int.tmod n 32) (fun out_1 => (S_q21 out_1 (fun mr mr_1 => ((decide ((mr + mr_1) <= (List.length out_1))) && (k0 (List.take mr_1 (List.drop mr out_1)))))))) (0, (List.replicate (Int.toNat ((((List.length m) : Nat) : Int) - (IntKind.wrap .u64 (Int.tdiv n 32)))) (0 : Int))))))))

def s_q126 (N_ : Nat) : TS_q126 := G_q126 N_ (s_q21 N_)

abbrev TS_q33 : Type := List Int -> List Int -> (List Int -> Bool) -> Bool

def st_z00_minus_0 (N_ : Nat) (S_q21 : TS_q21) (a_1 : List Int) (b_1 : List Int) (e0 : List Int -> Bool) : (Int × Int × List Int) -> ((Int × Int × List Int) -> Bool) -> Bool := fun v_ K => match v_ with
  | (borrow, i, out) => (cond (decide (i < (((List.length a_1) : Nat) : Int))) (cond (decide (i < (((List.length b_1) : Nat) : Int))) ((inR i (List.length b_1)) && ((inR i (List.length a_1)) && (cond (decide ((IntKind.wrap .u64 (List.getD a_1 (Int.toNat i) 0)) < (IntKind.wrap .u64 (borrow + (IntKind.wrap .u64 (List.getD b_1 (Int.toNat i) 0)))))) ((inR i (List.length out)) && ((decide ((Int.toNat i) < (List.length out))) && ((fits .i64 (i + 1)) && (K (1, (i + 1), (List.set out (Int.toNat i) (IntKind.wrap .u32 (IntKind.wrap .u64 ((IntKind.wrap .u64 ((IntKind.wrap .u64 (List.getD a_1 (Int.toNat i) 0)) + 4294967296)) - (IntKind.wrap .u64 (borrow + (IntKind.wrap .u64 (List.getD b_1 (Int.toNat i) 0))))))))))))) ((inR i (List.length out)) && ((decide ((Int.toNat i) < (List.length out))) && ((fits .i64 (i + 1)) && (K (0, (i + 1), (List.set out (Int.toNat i) (IntKind.wrap .u32 (IntKind.wrap .u64 ((IntKind.wrap .u64 (List.getD a_1 (Int.toNat i) 0)) - (IntKind.wrap .u64 (borrow + (IntKind.wrap .u64 (List.getD b_1 (Int.toNat i) 0)))))))))))))))) ((inR i (List.length a_1)) && (cond (decide ((IntKind.wrap .u64 (List.getD a_1 (Int.toNat i) 0)) < borrow)) ((inR i (List.length out)) && ((decide ((Int.toNat i) < (List.length out))) && ((fits .i64 (i + 1)) && (K (1, (i + 1), (List.set out (Int.toNat i) (IntKind.wrap .u32 (IntKind.wrap .u64 ((IntKind.wrap .u64 ((IntKind.wrap .u64 (List.getD a_1 (Int.toNat i) 0)) + 4294967296)) - borrow))))))))) ((inR i (List.length out)) && ((decide ((Int.toNat i) < (List.length out))) && ((fits .i64 (i + 1)) && (K (0, (i + 1), (List.set out (Int.toNat i) (IntKind.wrap .u32 (IntKind.wrap .u64 ((IntKind.wrap .u64 (List.getD a_1 (Int.toNat i) 0)) - borrow)))))))))))) (e0 out))

def G_q33 (N_ : Nat) (S_q21 : TS_q21) (a : List Int) (b : List Int) (k0 : List Int -> Bool) : Bool :=
  ((mkOk 4 (((List.length a) : Nat) : Int) (((List.length a) : Nat) : Int)) && (iterG N_ (st_z00_minus_0 N_ S_q21 a b (fun out_1 => (S_q21 out_1 (fun mr mr_1 => ((decide ((mr + mr_1) <= (List.length out_1))) && (k0 (List.take mr_1 (List.drop mr out_1)))))))) (0, 0, (List.replicate (Int.toNat (((List.length a) : Nat) : Int)) (0 : Int)))))

def s_q33 (N_ : Nat) : TS_q33 := G_q33 N_ (s_q21 N_)

abbrev TS_q98 : Type := List Int -> List Int -> (List Int -> Bool) -> Bool

def st_z00_plus_0 (N_ : Nat) (S_q21 : TS_q21) (a_1 : List Int) (b_1 : List Int) (e0 : Int -> List Int -> Bool) : (Int × Int × List Int) -> ((Int × Int × List Int) -> Bool) -> Bool := fun v_ K => match v_ with
  | (carry, i, out) => (cond (decide (i < (((List.length a_1) : Nat) : Int))) ((inR i (List.length a_1)) && (cond (decide (i < (((List.length b_1) : Nat) : Int))) ((inR i (List.length b_1)) && ((inR i (List.length out)) && ((decide ((Int.toNat i) < (List.length out))) && ((fits .i64 (i + 1)) && (K ((Int.fdiv (IntKind.wrap .u64 ((IntKind.wrap .u64 ((IntKind.wrap .u64 (List.getD a_1 (Int.toNat i) 0)) + carry)) + (IntKind.wrap .u64 (List.getD b_1 (Int.toNat i) 0)))) (2 ^ 32)), (i + 1), (List.set out (Int.toNat i) (IntKind.wrap .u32 (IntKind.wrap .u64 ((IntKind.wrap .u64 ((IntKind.wrap .u64 (List.getD a_1 (Int.toNat i) 0)) + carry)) + (IntKind.wrap .u64 (List.getD b_1 (Int.toNat i) 0)))))))))))) ((inR i (List.length out)) && ((decide ((Int.toNat i) < (List.length out))) && ((fits .i64 (i + 1)) && (K ((Int.fdiv (IntKind.wrap .u64 ((IntKind.wrap .u64 (List.getD a_1 (Int.toNat i) 0)) + carry)) (2 ^ 32)), (i + 1), (List.set out (Int.toNat i) (IntKind.wrap .u32 (IntKind.wrap .u64 ((IntKind.wrap .u64 (List.getD a_1 (Int.toNat i) 0)) + carry))))))))))) (e0 carry out))

def G_q98 (N_ : Nat) (S_q21 : TS_q21) (a : List Int) (b : List Int) (k0 : List Int -> Bool) : Bool :=
  (cond (decide ((((List.length a) : Nat) : Int) < (((List.length b) : Nat) : Int))) ((fits .i64 ((((List.length b) : Nat) : Int) + 1)) && ((mkOk 4 ((((List.length b) : Nat) : Int) + 1) ((((List.length b) : Nat) : Int) + 1)) && (iterG N_ (st_z00_plus_0 N_ S_q21 b a (fun carry_1 out_1 => ((inR (((List.length b) : Nat) : Int) (List.length out_1)) && ((decide ((Int.toNat (((List.length b) : Nat) : Int)) < (List.length out_1))) && (S_q21 (List.set out_1 (Int.toNat (((List.length b) : Nat) : Int)) (IntKind.wrap .u32 carry_1)) (fun mr mr_1 => ((decide ((mr + mr_1) <= (List.length (List.set out_1 (Int.toNat (((List.length b) : Nat) : Int)) (IntKind.wrap .u32 carry_1))))) && (k0 (List.take mr_1 (List.drop mr (List.set out_1 (Int.toNat (((List.length b) : Nat) : Int)) (IntKind.wrap .u32 carry_1)))))))))))) (0, 0, (List.replicate (Int.toNat ((((List.length b) : Nat) : Int) + 1)) (0 : Int)))))) ((fits .i64 ((((List.length a) : Nat) : Int) + 1)) && ((mkOk 4 ((((List.length a) : Nat) : Int) + 1) ((((List.length a) : Nat) : Int) + 1)) && (iterG N_ (st_z00_plus_0 N_ S_q21 a b (fun carry_2 out_2 => ((inR (((List.length a) : Nat) : Int) (List.length out_2)) && ((decide ((Int.toNat (((List.length a) : Nat) : Int)) < (List.length out_2))) && (S_q21 (List.set out_2 (Int.toNat (((List.length a) : Nat) : Int)) (IntKind.wrap .u32 carry_2)) (fun mr_2 mr_3 => ((decide ((mr_2 + mr_3) <= (List.length (List.set out_2 (Int.toNat (((List.length a) : Nat) : Int)) (IntKind.wrap .u32 carry_2))))) && (k0 (List.take mr_3 (List.drop mr_2 (List.set out_2 (Int.toNat (((List.length a) : Nat) : Int)) (IntKind.wrap .u32 carry_2)))))))))))) (0, 0, (List.replicate (Int.toNat ((((List.length a) : Nat) : Int) + 1)) (0 : Int)))))))

def s_q98 (N_ : Nat) : TS_q98 := G_q98 N_ (s_q21 N_)

abbrev TS_q113 : Type := Int -> Bool -> Bool -> List Int -> (Bool -> List Int -> Bool) -> Bool

def G_q113 (N_ : Nat) (S_q126 : TS_q126) (S_q53 : TS_q53) (S_q33 : TS_q33) (S_q98 : TS_q98) (n : Int) (b : Bool) (b_1 : Bool) (b_2 : List Int) (k0 : Bool -> List Int -> Bool) : Bool :=
  (cond (!b_1) (S_q126 b_2 n (fun nsr => (S_q53 false nsr b (fun cr nsr_1 => (k0 cr nsr_1))))) (S_q33 b_2 [1] (fun nsr_2 => (S_q126 nsr_2 n (fun nsr_3 => (S_q98 nsr_3 [1] (fun nsr_4 => (S_q53 true nsr_4 b (fun cr_1 nsr_5 => (k0 cr_1 nsr_5))))))))))

def s_q113 (N_ : Nat) : TS_q113 := G_q113 N_ (s_q126 N_) (s_q53 N_) (s_q33 N_) (s_q98 N_)

abbrev TS_q109 : Type := Int -> Bool -> Bool -> List Int -> (Bool -> List Int -> Bool) -> Bool

def G_q109 (N_ : Nat) (S_q139 : TS_q139) (S_q53 : TS_q53) (n : Int) (b : Bool) (b_1 : Bool) (b_2 : List Int) (k0 : Bool -> List Int -> Bool) : Bool :=
  (S_q139 b_2 n (fun nsr => (S_q53 b_1 nsr b (fun cr nsr_1 => (k0 cr nsr_1)))))

def s_q109 (N_ : Nat) : TS_q109 := G_q109 N_ (s_q139 N_) (s_q53 N_)

abbrev TS_q69 : Type := List Int -> List Int -> (Int -> Bool) -> Bool

def st_q212 (N_ : Nat) (a_1 : List Int) (b_1 : List Int) (e0 : Int -> Bool) (e1 : Bool) : (Int) -> ((Int) -> Bool) -> Bool := fun v_ K => match v_ with
  | i => (cond (decide (i >= 0)) ((inR i (List.length a_1)) && ((inR i (List.length b_1)) && (cond (decide ((List.getD a_1 (Int.toNat i) 0) < (List.getD b_1 (Int.toNat i) 0))) (e0 (-1)) ((inR i (List.length a_1)) && ((inR i (List.length b_1)) && (cond (decide ((List.getD a_1 (Int.toNat i) 0) > (List.getD b_1 (Int.toNat i) 0))) (e0 1) ((fits .i64 (i - 1)) && (K (i - 1))))))))) e1)

def G_q69 (N_ : Nat) (a : List Int) (b : List Int) (k0 : Int -> Bool) : Bool :=
  (cond ((((List.length a) : Nat) : Int) != (((List.length b) : Nat) : Int)) (cond (decide ((((List.length a) : Nat) : Int) < (((List.length b) : Nat) : Int))) (k0 (-1)) (k0 1)) ((fits .i64 ((((List.length a) : Nat) : Int) - 1)) && (iterG N_ (st_q212 N_ a b (fun t4 => (k0 t4)) (k0 0)) ((((List.length a) : Nat) : Int) - 1))))

def s_q69 (N_ : Nat) : TS_q69 := G_q69 N_

abbrev TS_q82 : Type := Bool -> Bool -> Bool -> List Int -> Bool -> List Int -> (Bool -> List Int -> Bool) -> Bool

def G_q82 (N_ : Nat) (S_q98 : TS_q98) (S_q53 : TS_q53) (S_q69 : TS_q69) (S_q33 : TS_q33) (turn : Bool) (b : Bool) (b_1 : Bool) (b_2 : List Int) (b_3 : Bool) (b_4 : List Int) (k0 : Bool -> List Int -> Bool) : Bool :=
  (cond (b_1 == (b_3 != turn)) (S_q98 b_2 b_4 (fun nsr => (S_q53 (b_3 != turn) nsr b (fun cr nsr_1 => (k0 cr nsr_1))))) (S_q69 b_2 b_4 (fun nr => (cond (decide (nr >= 0)) (S_q33 b_2 b_4 (fun nsr_2 => (S_q53 b_1 nsr_2 b (fun cr_1 nsr_3 => (k0 cr_1 nsr_3))))) (S_q33 b_4 b_2 (fun nsr_4 => (S_q53 (b_3 != turn) nsr_4 b (fun cr_2 nsr_5 => (k0 cr_2 nsr_5)))))))))

def s_q82 (N_ : Nat) : TS_q82 := G_q82 N_ (s_q98 N_) (s_q53 N_) (s_q69 N_) (s_q33 N_)

abbrev TS_q81 : Type := Bool -> Bool -> List Int -> Bool -> List Int -> (Bool -> List Int -> Bool) -> Bool

def G_q81 (N_ : Nat) (S_q82 : TS_q82) (b : Bool) (b_1 : Bool) (b_2 : List Int) (b_3 : Bool) (b_4 : List Int) (k0 : Bool -> List Int -> Bool) : Bool :=
  (S_q82 true b b_1 b_2 b_3 b_4 (fun cr nsr => (k0 cr nsr)))

def s_q81 (N_ : Nat) : TS_q81 := G_q81 N_ (s_q82 N_)

abbrev TS_q93 : Type := Int -> Bool -> (Bool -> List Int -> Bool) -> Bool

def G_q93 (N_ : Nat) (S_q106 : TS_q106) (S_q53 : TS_q53) (n : Int) (b : Bool) (k0 : Bool -> List Int -> Bool) : Bool :=
  (cond (decide (n < 0)) (S_q106 (IntKind.wrap .u64 (0 - (IntKind.wrap .u64 n))) (fun nsr => (S_q53 (decide (n < 0)) nsr b (fun cr nsr_1 => (k0 cr nsr_1))))) (S_q106 (IntKind.wrap .u64 n) (fun nsr_2 => (S_q53 (decide (n < 0)) nsr_2 b (fun cr_1 nsr_3 => (k0 cr_1 nsr_3))))))

def s_q93 (N_ : Nat) : TS_q93 := G_q93 N_ (s_q106 N_) (s_q53 N_)

abbrev TS_q15 : Type := Int -> (Bool -> List Int -> Bool) -> Bool

def G_q15 (N_ : Nat) (S_q93 : TS_q93) (n : Int) (k0 : Bool -> List Int -> Bool) : Bool :=
  (S_q93 n false (fun cr nsr => (k0 cr nsr)))

def s_q15 (N_ : Nat) : TS_q15 := G_q15 N_ (s_q93 N_)

abbrev TS_q112 : Type := Bool -> List Int -> Bool -> List Int -> (Int -> Bool) -> Bool

def G_q112 (N_ : Nat) (S_q69 : TS_q69) (b : Bool) (b_1 : List Int) (b_2 : Bool) (b_3 : List Int) (k0 : Int -> Bool) : Bool :=
  (cond (b != b_2) (cond b (k0 (-1)) (k0 1)) (S_q69 b_1 b_3 (fun nr => (cond b ((fits .i64 (0 - nr)) && (k0 (0 - nr))) (k0 nr)))))

def s_q112 (N_ : Nat) : TS_q112 := G_q112 N_ (s_q69 N_)

abbrev TS_q60 : Type := Int -> Bool -> List Int -> (Int -> Bool -> List Int -> Bool) -> Bool

def G_q60 (N_ : Nat) (S_q113 : TS_q113) (S_q109 : TS_q109) (S_q81 : TS_q81) (S_q99 : TS_q99) (S_q15 : TS_q15) (S_q112 : TS_q112) (s : Int) (b : Bool) (b_1 : List Int) (k0 : Int -> Bool -> List Int -> Bool) : Bool :=
  (S_q113 (IntKind.wrap .u64 s) false b b_1 (fun cr nsr => (S_q109 (IntKind.wrap .u64 s) false cr nsr (fun cr_1 nsr_1 => (S_q81 false b b_1 cr_1 nsr_1 (fun cr_2 nsr_2 => (cond (s == 0) (k0 (-2) cr nsr) (S_q99 cr_2 nsr_2 (fun nr => (cond ((nr == 0) == true) (k0 (-2) cr nsr) (S_q15 1 (fun cr_3 nsr_3 => ((fits .i64 (s - 1)) && (S_q109 (IntKind.wrap .u64 (s - 1)) false cr_3 nsr_3 (fun cr_4 nsr_4 => (S_q112 cr_2 nsr_2 cr_4 nsr_4 (fun nr_1 => (cond ((nr_1 == 0) == true) (k0 nr_1 cr nsr) (k0 nr_1 cr nsr)))))))))))))))))))

def s_q60 (N_ : Nat) : TS_q60 := G_q60 N_ (s_q113 N_) (s_q109 N_) (s_q81 N_) (s_q99 N_) (s_q15 N_) (s_q112 N_)

abbrev TS_q135 : Type := Int -> Bool -> List Int -> (Int -> Bool) -> Bool

def J_q206 (N_ : Nat) (S_q33 : TS_q33) (i : Int) (b : Bool) (b_1 : List Int) (b_3 : Int) (k0 : Int -> Bool) : Bool :=
  (cond b (k0 (IntKind.wrap .u64 (IntKind.wrap .u32 (1 - b_3)))) (k0 (IntKind.wrap .u64 b_3)))

def J_q203 (N_ : Nat) (S_q33 : TS_q33) (i : Int) (b : Bool) (b_1 : List Int) (k0 : Int -> Bool) : Bool :=
  ((fits .i64 (Int.tdiv i 32)) && (cond (decide ((Int.tdiv i 32) < (((List.length b_1) : Nat) : Int))) ((fits .i64 (Int.tdiv i 32)) && ((inR (Int.tdiv i 32) (List.length b_1)) && ((decide (0 <= (IntKind.wrap .u64 (Int.tmod i 32)))) && (J_q206 N_ S_q33 i b b_1 (bitsN .and .u32 (Int.fdiv (List.getD b_1 (Int.toNat (Int.tdiv i 32)) 0) (2 ^ (min (Int.toNat (IntKind.wrap .u64 (Int.tmod i 32))) 32))) 1) k0)))) (J_q206 N_ S_q33 i b b_1 0 k0)))

def J_q213 (N_ : Nat) (S_q33 : TS_q33) (i : Int) (b : Bool) (b_1 : List Int) (b_2 : Int) (k0 : Int -> Bool) : Bool :=
  (cond b (k0 (IntKind.wrap .u64 (IntKind.wrap .u32 (1 - b_2)))) (k0 (IntKind.wrap .u64 b_2)))

def J_q205 (N_ : Nat) (S_q33 : TS_q33) (i : Int) (b : Bool) (b_1 : List Int) (m : List Int) (k0 : Int -> Bool) : Bool :=
  ((fits .i64 (Int.tdiv i 32)) && (cond (decide ((Int.tdiv i 32) < (((List.length m) : Nat) : Int))) ((fits .i64 (Int.tdiv i 32)) && ((inR (Int.tdiv i 32) (List.length m)) && ((decide (0 <= (IntKind.wrap .u64 (Int.tmod i 32)))) && (J_q213 N_ S_q33 i b b_1 (bitsN .and .u32 (Int.fdiv (List.getD m (Int.toNat (Int.tdiv i 32)) 0) (2 ^ (min (Int.toNat (IntKind.wrap .u64 (Int.tmod i 32))) 32))) 1) k0)))) (J_q213 N_ S_q33 i b b_1 0 k0)))

def G_q135 (N_ : Nat) (S_q33 : TS_q33) (i : Int) (b : Bool) (b_1 : List Int) (k0 : Int -> Bool) : Bool :=
  (cond b (S_q33 b_1 [1] (fun nsr => (J_q205 N_ S_q33 i b b_1 nsr k0))) (J_q203 N_ S_q33 i b b_1 k0))

def s_q135 (N_ : Nat) : TS_q135 := G_q135 N_ (s_q33 N_)

abbrev TS_q22 : Type := Bool -> Int -> Bool -> List Int -> (Bool -> Bool) -> Bool

def G_q22 (N_ : Nat) (S_q135 : TS_q135) (neg : Bool) (c : Int) (b : Bool) (b_1 : List Int) (k0 : Bool -> Bool) : Bool :=
  (cond ((decide (c > 0)) == false) (cond ((c == 0) == true) (S_q135 0 b b_1 (fun nr => (k0 (nr == 1)))) (k0 false)) (k0 true))

def s_q22 (N_ : Nat) : TS_q22 := G_q22 N_ (s_q135 N_)

abbrev TS_q92 : Type := Bool -> Bool -> List Int -> Bool -> List Int -> (Bool -> List Int -> Bool) -> Bool

def G_q92 (N_ : Nat) (S_q98 : TS_q98) (S_q64 : TS_q64) (S_q69 : TS_q69) (S_q33 : TS_q33) (turn : Bool) (b : Bool) (b_1 : List Int) (b_2 : Bool) (b_3 : List Int) (k0 : Bool -> List Int -> Bool) : Bool :=
  (cond (b == (b_2 != turn)) (S_q98 b_1 b_3 (fun nsr => (S_q64 (b_2 != turn) nsr b b_1 (fun cr nsr_1 => (k0 cr nsr_1))))) (S_q69 b_1 b_3 (fun nr => (cond (decide (nr >= 0)) (S_q33 b_1 b_3 (fun nsr_2 => (S_q64 b nsr_2 b b_1 (fun cr_1 nsr_3 => (k0 cr_1 nsr_3))))) (S_q33 b_3 b_1 (fun nsr_4 => (S_q64 (b_2 != turn) nsr_4 b b_1 (fun cr_2 nsr_5 => (k0 cr_2 nsr_5)))))))))

def s_q92 (N_ : Nat) : TS_q92 := G_q92 N_ (s_q98 N_) (s_q64 N_) (s_q69 N_) (s_q33 N_)

abbrev TS_q2 : Type := Bool -> List Int -> Bool -> List Int -> (Bool -> List Int -> Bool) -> Bool

def G_q2 (N_ : Nat) (S_q92 : TS_q92) (b : Bool) (b_1 : List Int) (b_2 : Bool) (b_3 : List Int) (k0 : Bool -> List Int -> Bool) : Bool :=
  (S_q92 false b b_1 b_2 b_3 (fun cr nsr => (k0 cr nsr)))

def s_q2 (N_ : Nat) : TS_q2 := G_q2 N_ (s_q92 N_)

abbrev TS_q9 : Type := Int -> Bool -> List Int -> (Bool -> List Int -> Bool) -> Bool

def G_q9 (N_ : Nat) (S_q126 : TS_q126) (S_q64 : TS_q64) (S_q33 : TS_q33) (S_q98 : TS_q98) (n : Int) (b : Bool) (b_1 : List Int) (k0 : Bool -> List Int -> Bool) : Bool :=
  (cond (!b) (S_q126 b_1 n (fun nsr => (S_q64 false nsr b b_1 (fun cr nsr_1 => (k0 cr nsr_1))))) (S_q33 b_1 [1] (fun nsr_2 => (S_q126 nsr_2 n (fun nsr_3 => (S_q98 nsr_3 [1] (fun nsr_4 => (S_q64 true nsr_4 b b_1 (fun cr_1 nsr_5 => (k0 cr_1 nsr_5))))))))))

def s_q9 (N_ : Nat) : TS_q9 := G_q9 N_ (s_q126 N_) (s_q64 N_) (s_q33 N_) (s_q98 N_)

abbrev TS_q59 : Type := Bool -> (Int -> Bool) -> Bool

def G_q59 (N_ : Nat) (S_q104 : TS_q104) (neg : Bool) (k0 : Int -> Bool) : Bool :=
  (S_q104 neg (fun nr => (k0 nr)))

def s_q59 (N_ : Nat) : TS_q59 := G_q59 N_ (s_q104 N_)

abbrev TS_q6 : Type := Bool -> List Int -> (Int -> Bool) -> Bool

def J_q198 (N_ : Nat) (b : Bool) (b_1 : List Int) (u : Int) (k0 : Int -> Bool) : Bool :=
  (cond (decide ((((List.length b_1) : Nat) : Int) > 1)) ((inR 1 (List.length b_1)) && (k0 (bitsN .or .u64 u (IntKind.wrap .u64 ((IntKind.wrap .u64 (List.getD b_1 1 0)) * 2 ^ 32))))) (k0 u))

def G_q6 (N_ : Nat) (b : Bool) (b_1 : List Int) (k0 : Int -> Bool) : Bool :=
  (cond (decide ((((List.length b_1) : Nat) : Int) > 0)) ((inR 0 (List.length b_1)) && (J_q198 N_ b b_1 (IntKind.wrap .u64 (List.getD b_1 0 0)) k0)) (J_q198 N_ b b_1 0 k0))

def s_q6 (N_ : Nat) : TS_q6 := G_q6 N_

abbrev TS_q145 : Type := Bool -> Int -> Bool -> List Int -> (Int -> Int -> Bool) -> Bool

def J_q207 (N_ : Nat) (S_q5 : TS_q5) (S_q8 : TS_q8) (S_q10 : TS_q10) (S_q60 : TS_q60) (S_q22 : TS_q22) (S_q15 : TS_q15) (S_q2 : TS_q2) (S_q9 : TS_q9) (S_q59 : TS_q59) (S_q6 : TS_q6) (S_q68 : TS_q68) (neg : Bool) (e : Int) (b : Bool) (b_1 : List Int) (quantum_11 : Int) (flags_3 : Int) (q_22 : Bool) (q_23 : List Int) (k0 : Int -> Int -> Bool) : Bool :=
  (S_q5 q_22 q_23 (fun nr_27 => ((fits .i64 (quantum_11 + nr_27)) && ((fits .i64 ((quantum_11 + nr_27) - 1)) && (cond (decide (((quantum_11 + nr_27) - 1) > 1023)) (S_q59 neg (fun nr_28 => (k0 nr_28 5))) (S_q5 q_22 q_23 (fun nr_29 => (cond (decide (nr_29 < 53)) (S_q6 q_22 q_23 (fun nr_30 => (S_q68 neg 0 nr_30 (fun nr_31 => (k0 nr_31 flags_3))))) ((fits .i64 (quantum_11 - (-1074))) && ((fits .i64 ((quantum_11 - (-1074)) + 1)) && (S_q6 q_22 q_23 (fun nr_32 => (S_q68 neg ((quantum_11 - (-1074)) + 1) (bitsN .and .u64 nr_32 4503599627370495) (fun nr_33 => (k0 nr_33 flags_3)))))))))))))))

def J_q195 (N_ : Nat) (S_q5 : TS_q5) (S_q8 : TS_q8) (S_q10 : TS_q10) (S_q60 : TS_q60) (S_q22 : TS_q22) (S_q15 : TS_q15) (S_q2 : TS_q2) (S_q9 : TS_q9) (S_q59 : TS_q59) (S_q6 : TS_q6) (S_q68 : TS_q68) (neg : Bool) (e : Int) (b : Bool) (b_1 : List Int) (quantum_10 : Int) (flags_2 : Int) (q_20 : Bool) (q_21 : List Int) (k0 : Int -> Int -> Bool) : Bool :=
  (S_q5 q_20 q_21 (fun nr_26 => (cond (decide (nr_26 > 53)) (S_q9 1 q_20 q_21 (fun cr_12 nsr_10 => ((fits .i64 (quantum_10 + 1)) && (J_q207 N_ S_q5 S_q8 S_q10 S_q60 S_q22 S_q15 S_q2 S_q9 S_q59 S_q6 S_q68 neg e b b_1 (quantum_10 + 1) flags_2 cr_12 nsr_10 k0)))) (J_q207 N_ S_q5 S_q8 S_q10 S_q60 S_q22 S_q15 S_q2 S_q9 S_q59 S_q6 S_q68 neg e b b_1 quantum_10 flags_2 q_20 q_21 k0))))

def J_q211 (N_ : Nat) (S_q5 : TS_q5) (S_q8 : TS_q8) (S_q10 : TS_q10) (S_q60 : TS_q60) (S_q22 : TS_q22) (S_q15 : TS_q15) (S_q2 : TS_q2) (S_q9 : TS_q9) (S_q59 : TS_q59) (S_q6 : TS_q6) (S_q68 : TS_q68) (neg : Bool) (e : Int) (b : Bool) (b_1 : List Int) (top_5 : Int) (quantum_9 : Int) (c_2 : Int) (q_18 : Bool) (q_19 : List Int) (k0 : Int -> Int -> Bool) : Bool :=
  (cond (decide (c_2 > (-2))) (cond (decide (top_5 < (-1022))) (J_q195 N_ S_q5 S_q8 S_q10 S_q60 S_q22 S_q15 S_q2 S_q9 S_q59 S_q6 S_q68 neg e b b_1 quantum_9 3 q_18 q_19 k0) (J_q195 N_ S_q5 S_q8 S_q10 S_q60 S_q22 S_q15 S_q2 S_q9 S_q59 S_q6 S_q68 neg e b b_1 quantum_9 1 q_18 q_19 k0)) (J_q195 N_ S_q5 S_q8 S_q10 S_q60 S_q22 S_q15 S_q2 S_q9 S_q59 S_q6 S_q68 neg e b b_1 quantum_9 0 q_18 q_19 k0))

def J_q221 (N_ : Nat) (S_q5 : TS_q5) (S_q8 : TS_q8) (S_q10 : TS_q10) (S_q60 : TS_q60) (S_q22 : TS_q22) (S_q15 : TS_q15) (S_q2 : TS_q2) (S_q9 : TS_q9) (S_q59 : TS_q59) (S_q6 : TS_q6) (S_q68 : TS_q68) (neg : Bool) (e : Int) (b : Bool) (b_1 : List Int) (quantum_8 : Int) (flags_1 : Int) (q_16 : Bool) (q_17 : List Int) (k0 : Int -> Int -> Bool) : Bool :=
  (S_q5 q_16 q_17 (fun nr_19 => ((fits .i64 (quantum_8 + nr_19)) && ((fits .i64 ((quantum_8 + nr_19) - 1)) && (cond (decide (((quantum_8 + nr_19) - 1) > 1023)) (S_q59 neg (fun nr_20 => (k0 nr_20 5))) (S_q5 q_16 q_17 (fun nr_21 => (cond (decide (nr_21 < 53)) (S_q6 q_16 q_17 (fun nr_22 => (S_q68 neg 0 nr_22 (fun nr_23 => (k0 nr_23 flags_1))))) ((fits .i64 (quantum_8 - (-1074))) && ((fits .i64 ((quantum_8 - (-1074)) + 1)) && (S_q6 q_16 q_17 (fun nr_24 => (S_q68 neg ((quantum_8 - (-1074)) + 1) (bitsN .and .u64 nr_24 4503599627370495) (fun nr_25 => (k0 nr_25 flags_1)))))))))))))))

def J_q199 (N_ : Nat) (S_q5 : TS_q5) (S_q8 : TS_q8) (S_q10 : TS_q10) (S_q60 : TS_q60) (S_q22 : TS_q22) (S_q15 : TS_q15) (S_q2 : TS_q2) (S_q9 : TS_q9) (S_q59 : TS_q59) (S_q6 : TS_q6) (S_q68 : TS_q68) (neg : Bool) (e : Int) (b : Bool) (b_1 : List Int) (quantum_7 : Int) (flags : Int) (q_14 : Bool) (q_15 : List Int) (k0 : Int -> Int -> Bool) : Bool :=
  (S_q5 q_14 q_15 (fun nr_18 => (cond (decide (nr_18 > 53)) (S_q9 1 q_14 q_15 (fun cr_11 nsr_9 => ((fits .i64 (quantum_7 + 1)) && (J_q221 N_ S_q5 S_q8 S_q10 S_q60 S_q22 S_q15 S_q2 S_q9 S_q59 S_q6 S_q68 neg e b b_1 (quantum_7 + 1) flags cr_11 nsr_9 k0)))) (J_q221 N_ S_q5 S_q8 S_q10 S_q60 S_q22 S_q15 S_q2 S_q9 S_q59 S_q6 S_q68 neg e b b_1 quantum_7 flags q_14 q_15 k0))))

def J_q210 (N_ : Nat) (S_q5 : TS_q5) (S_q8 : TS_q8) (S_q10 : TS_q10) (S_q60 : TS_q60) (S_q22 : TS_q22) (S_q15 : TS_q15) (S_q2 : TS_q2) (S_q9 : TS_q9) (S_q59 : TS_q59) (S_q6 : TS_q6) (S_q68 : TS_q68) (neg : Bool) (e : Int) (b : Bool) (b_1 : List Int) (top_4 : Int) (quantum_6 : Int) (c_1 : Int) (q_12 : Bool) (q_13 : List Int) (k0 : Int -> Int -> Bool) : Bool :=
  (cond (decide (c_1 > (-2))) (cond (decide (top_4 < (-1022))) (J_q199 N_ S_q5 S_q8 S_q10 S_q60 S_q22 S_q15 S_q2 S_q9 S_q59 S_q6 S_q68 neg e b b_1 quantum_6 3 q_12 q_13 k0) (J_q199 N_ S_q5 S_q8 S_q10 S_q60 S_q22 S_q15 S_q2 S_q9 S_q59 S_q6 S_q68 neg e b b_1 quantum_6 1 q_12 q_13 k0)) (J_q199 N_ S_q5 S_q8 S_q10 S_q60 S_q22 S_q15 S_q2 S_q9 S_q59 S_q6 S_q68 neg e b b_1 quantum_6 0 q_12 q_13 k0))

def J_q220 (N_ : Nat) (S_q5 : TS_q5) (S_q8 : TS_q8) (S_q10 : TS_q10) (S_q60 : TS_q60) (S_q22 : TS_q22) (S_q15 : TS_q15) (S_q2 : TS_q2) (S_q9 : TS_q9) (S_q59 : TS_q59) (S_q6 : TS_q6) (S_q68 : TS_q68) (neg : Bool) (e : Int) (b : Bool) (b_1 : List Int) (top_3 : Int) (quantum_5 : Int) (c : Int) (q_10 : Bool) (q_11 : List Int) (k0 : Int -> Int -> Bool) : Bool :=
  (S_q22 neg c q_10 q_11 (fun cr_8 => (cond cr_8 (S_q15 1 (fun cr_9 nsr_7 => (S_q2 q_10 q_11 cr_9 nsr_7 (fun cr_10 nsr_8 => (J_q210 N_ S_q5 S_q8 S_q10 S_q60 S_q22 S_q15 S_q2 S_q9 S_q59 S_q6 S_q68 neg e b b_1 top_3 quantum_5 c cr_10 nsr_8 k0))))) (J_q211 N_ S_q5 S_q8 S_q10 S_q60 S_q22 S_q15 S_q2 S_q9 S_q59 S_q6 S_q68 neg e b b_1 top_3 quantum_5 c q_10 q_11 k0))))

def J_q219 (N_ : Nat) (S_q5 : TS_q5) (S_q8 : TS_q8) (S_q10 : TS_q10) (S_q60 : TS_q60) (S_q22 : TS_q22) (S_q15 : TS_q15) (S_q2 : TS_q2) (S_q9 : TS_q9) (S_q59 : TS_q59) (S_q6 : TS_q6) (S_q68 : TS_q68) (neg : Bool) (e : Int) (b : Bool) (b_1 : List Int) (quantum_4 : Int) (q_8 : Bool) (q_9 : List Int) (k0 : Int -> Int -> Bool) : Bool :=
  (S_q5 q_8 q_9 (fun nr_11 => ((fits .i64 (quantum_4 + nr_11)) && ((fits .i64 ((quantum_4 + nr_11) - 1)) && (cond (decide (((quantum_4 + nr_11) - 1) > 1023)) (S_q59 neg (fun nr_12 => (k0 nr_12 5))) (S_q5 q_8 q_9 (fun nr_13 => (cond (decide (nr_13 < 53)) (S_q6 q_8 q_9 (fun nr_14 => (S_q68 neg 0 nr_14 (fun nr_15 => (k0 nr_15 0))))) ((fits .i64 (quantum_4 - (-1074))) && ((fits .i64 ((quantum_4 - (-1074)) + 1)) && (S_q6 q_8 q_9 (fun nr_16 => (S_q68 neg ((quantum_4 - (-1074)) + 1) (bitsN .and .u64 nr_16 4503599627370495) (fun nr_17 => (k0 nr_17 0)))))))))))))))

def J_q209 (N_ : Nat) (S_q5 : TS_q5) (S_q8 : TS_q8) (S_q10 : TS_q10) (S_q60 : TS_q60) (S_q22 : TS_q22) (S_q15 : TS_q15) (S_q2 : TS_q2) (S_q9 : TS_q9) (S_q59 : TS_q59) (S_q6 : TS_q6) (S_q68 : TS_q68) (neg : Bool) (e : Int) (b : Bool) (b_1 : List Int) (top_2 : Int) (quantum_3 : Int) (q_6 : Bool) (q_7 : List Int) (k0 : Int -> Int -> Bool) : Bool :=
  (S_q5 q_6 q_7 (fun nr_10 => (cond (decide (nr_10 > 53)) (S_q9 1 q_6 q_7 (fun cr_7 nsr_6 => ((fits .i64 (quantum_3 + 1)) && (J_q219 N_ S_q5 S_q8 S_q10 S_q60 S_q22 S_q15 S_q2 S_q9 S_q59 S_q6 S_q68 neg e b b_1 (quantum_3 + 1) cr_7 nsr_6 k0)))) (J_q219 N_ S_q5 S_q8 S_q10 S_q60 S_q22 S_q15 S_q2 S_q9 S_q59 S_q6 S_q68 neg e b b_1 quantum_3 q_6 q_7 k0))))

def J_q218 (N_ : Nat) (S_q5 : TS_q5) (S_q8 : TS_q8) (S_q10 : TS_q10) (S_q60 : TS_q60) (S_q22 : TS_q22) (S_q15 : TS_q15) (S_q2 : TS_q2) (S_q9 : TS_q9) (S_q59 : TS_q59) (S_q6 : TS_q6) (S_q68 : TS_q68) (neg : Bool) (e : Int) (b : Bool) (b_1 : List Int) (quantum_2 : Int) (q_4 : Bool) (q_5 : List Int) (k0 : Int -> Int -> Bool) : Bool :=
  (S_q5 q_4 q_5 (fun nr_3 => ((fits .i64 (quantum_2 + nr_3)) && ((fits .i64 ((quantum_2 + nr_3) - 1)) && (cond (decide (((quantum_2 + nr_3) - 1) > 1023)) (S_q59 neg (fun nr_4 => (k0 nr_4 5))) (S_q5 q_4 q_5 (fun nr_5 => (cond (decide (nr_5 < 53)) (S_q6 q_4 q_5 (fun nr_6 => (S_q68 neg 0 nr_6 (fun nr_7 => (k0 nr_7 0))))) ((fits .i64 (quantum_2 - (-1074))) && ((fits .i64 ((quantum_2 - (-1074)) + 1)) && (S_q6 q_4 q_5 (fun nr_8 => (S_q68 neg ((quantum_2 - (-1074)) + 1) (bitsN .and .u64 nr_8 4503599627370495) (fun nr_9 => (k0 nr_9 0)))))))))))))))

def J_q208 (N_ : Nat) (S_q5 : TS_q5) (S_q8 : TS_q8) (S_q10 : TS_q10) (S_q60 : TS_q60) (S_q22 : TS_q22) (S_q15 : TS_q15) (S_q2 : TS_q2) (S_q9 : TS_q9) (S_q59 : TS_q59) (S_q6 : TS_q6) (S_q68 : TS_q68) (neg : Bool) (e : Int) (b : Bool) (b_1 : List Int) (top_1 : Int) (quantum_1 : Int) (q_2 : Bool) (q_3 : List Int) (k0 : Int -> Int -> Bool) : Bool :=
  (S_q5 q_2 q_3 (fun nr_2 => (cond (decide (nr_2 > 53)) (S_q9 1 q_2 q_3 (fun cr_6 nsr_5 => ((fits .i64 (quantum_1 + 1)) && (J_q218 N_ S_q5 S_q8 S_q10 S_q60 S_q22 S_q15 S_q2 S_q9 S_q59 S_q6 S_q68 neg e b b_1 (quantum_1 + 1) cr_6 nsr_5 k0)))) (J_q218 N_ S_q5 S_q8 S_q10 S_q60 S_q22 S_q15 S_q2 S_q9 S_q59 S_q6 S_q68 neg e b b_1 quantum_1 q_2 q_3 k0))))

def J_q217 (N_ : Nat) (S_q5 : TS_q5) (S_q8 : TS_q8) (S_q10 : TS_q10) (S_q60 : TS_q60) (S_q22 : TS_q22) (S_q15 : TS_q15) (S_q2 : TS_q2) (S_q9 : TS_q9) (S_q59 : TS_q59) (S_q6 : TS_q6) (S_q68 : TS_q68) (neg : Bool) (e : Int) (b : Bool) (b_1 : List Int) (top : Int) (quantum : Int) (q : Bool) (q_1 : List Int) (k0 : Int -> Int -> Bool) : Bool :=
  (S_q22 neg (-2) q q_1 (fun cr_3 => (cond cr_3 (S_q15 1 (fun cr_4 nsr_3 => (S_q2 q q_1 cr_4 nsr_3 (fun cr_5 nsr_4 => (J_q208 N_ S_q5 S_q8 S_q10 S_q60 S_q22 S_q15 S_q2 S_q9 S_q59 S_q6 S_q68 neg e b b_1 top quantum cr_5 nsr_4 k0))))) (J_q209 N_ S_q5 S_q8 S_q10 S_q60 S_q22 S_q15 S_q2 S_q9 S_q59 S_q6 S_q68 neg e b b_1 top quantum q q_1 k0))))

def G_q145 (N_ : Nat) (S_q5 : TS_q5) (S_q8 : TS_q8) (S_q10 : TS_q10) (S_q60 : TS_q60) (S_q22 : TS_q22) (S_q15 : TS_q15) (S_q2 : TS_q2) (S_q9 : TS_q9) (S_q59 : TS_q59) (S_q6 : TS_q6) (S_q68 : TS_q68) (neg : Bool) (e : Int) (b : Bool) (b_1 : List Int) (k0 : Int -> Int -> Bool) : Bool :=
  (S_q5 b b_1 (fun nr => ((fits .i64 (e + nr)) && ((fits .i64 ((e + nr) - 1)) && ((fits .i64 (((e + nr) - 1) - 53)) && ((fits .i64 ((((e + nr) - 1) - 53) + 1)) && (S_q8 false b b_1 (fun cr nsr => (cond (decide (e >= (imm true ((((e + nr) - 1) - 53) + 1) (-1074)))) ((fits .i64 (e - (imm true ((((e + nr) - 1) - 53) + 1) (-1074)))) && (S_q10 (IntKind.wrap .u64 (e - (imm true ((((e + nr) - 1) - 53) + 1) (-1074)))) cr nsr (fun cr_1 nsr_1 => (J_q217 N_ S_q5 S_q8 S_q10 S_q60 S_q22 S_q15 S_q2 S_q9 S_q59 S_q6 S_q68 neg e b b_1 ((e + nr) - 1) (imm true ((((e + nr) - 1) - 53) + 1) (-1074)) cr_1 nsr_1 k0)))) ((fits .i64 ((imm true ((((e + nr) - 1) - 53) + 1) (-1074)) - e)) && (S_q60 ((imm true ((((e + nr) - 1) - 53) + 1) (-1074)) - e) b b_1 (fun nr_1 cr_2 nsr_2 => (J_q220 N_ S_q5 S_q8 S_q10 S_q60 S_q22 S_q15 S_q2 S_q9 S_q59 S_q6 S_q68 neg e b b_1 ((e + nr) - 1) (imm true ((((e + nr) - 1) - 53) + 1) (-1074)) nr_1 cr_2 nsr_2 k0)))))))))))))

def s_q145 (N_ : Nat) : TS_q145 := G_q145 N_ (s_q5 N_) (s_q8 N_) (s_q10 N_) (s_q60 N_) (s_q22 N_) (s_q15 N_) (s_q2 N_) (s_q9 N_) (s_q59 N_) (s_q6 N_) (s_q68 N_)

abbrev TS_q111 : Type := Int -> Bool -> Int -> Bool -> List Int -> (Int -> Int -> Bool) -> Bool

def G_q111 (N_ : Nat) (S_q175 : TS_q175) (S_q104 : TS_q104) (S_q167 : TS_q167) (S_q169 : TS_q169) (S_q145 : TS_q145) (n_0 : Int) (n_1 : Bool) (n_2 : Int) (b : Bool) (b_1 : List Int) (k0 : Int -> Int -> Bool) : Bool :=
  (cond (n_0 == 2) (S_q175 (fun nr => (k0 nr 0))) (cond (n_0 == 1) (S_q104 n_1 (fun nr_1 => (k0 nr_1 0))) (S_q167 n_0 n_1 n_2 b b_1 (fun cr => (cond cr (S_q169 n_1 (fun nr_2 => (k0 nr_2 0))) (S_q145 n_1 n_2 b b_1 (fun nr_3 nr_4 => (k0 nr_3 nr_4))))))))

def s_q111 (N_ : Nat) : TS_q111 := G_q111 N_ (s_q175 N_) (s_q104 N_) (s_q167 N_) (s_q169 N_) (s_q145 N_)

abbrev TS_q148 : Type := Int -> Int -> (Int -> Int -> Int -> Bool) -> Bool

def J_q197 (N_ : Nat) (S_q119 : TS_q119) (S_q101 : TS_q101) (S_q156 : TS_q156) (S_q164 : TS_q164) (S_q111 : TS_q111) (x : Int) (k_ : Int) (b0_1 : Bool) (b0_2 : List Int) (n : Int) (n_1 : Bool) (n_2 : Int) (k0 : Int -> Int -> Int -> Bool) : Bool :=
  (S_q101 (S_q111 n n_1 n_2 b0_1 b0_2 (fun nr_3 nr_4 => (k0 nr_3 nr_4 0))))

def J_q232 (N_ : Nat) (S_q119 : TS_q119) (S_q101 : TS_q101) (S_q156 : TS_q156) (S_q164 : TS_q164) (S_q111 : TS_q111) (x : Int) (k_ : Int) (b0 : Bool) (k0 : Int -> Int -> Int -> Bool) : Bool :=
  (S_q101 (S_q164 b0 (fun nr_1 nr_2 => (k0 nr_1 nr_2 0))))

def G_q148 (N_ : Nat) (S_q119 : TS_q119) (S_q101 : TS_q101) (S_q156 : TS_q156) (S_q164 : TS_q164) (S_q111 : TS_q111) (x : Int) (k_ : Int) (k0 : Int -> Int -> Int -> Bool) : Bool :=
  (S_q119 (S_q101 (S_q156 x (fun cr => (J_q232 N_ S_q119 S_q101 S_q156 S_q164 S_q111 x k_ cr k0)) (fun cr_1 cr_2 nsr => (J_q197 N_ S_q119 S_q101 S_q156 S_q164 S_q111 x k_ cr_2 nsr 1 cr_1 (-1074) k0)) (fun cr_3 nr cr_4 nsr_1 => ((fits .i64 (nr + (imm true (-5000) (imm false k_ 5000)))) && (J_q197 N_ S_q119 S_q101 S_q156 S_q164 S_q111 x k_ cr_4 nsr_1 0 cr_3 (nr + (imm true (-5000) (imm false k_ 5000))) k0))) (fun cr_5 cr_6 nsr_2 => ((fits .i64 ((-1074) + (imm true (-5000) (imm false k_ 5000)))) && (J_q197 N_ S_q119 S_q101 S_q156 S_q164 S_q111 x k_ cr_6 nsr_2 0 cr_5 ((-1074) + (imm true (-5000) (imm false k_ 5000))) k0))))))

def s_q148 (N_ : Nat) : TS_q148 := G_q148 N_ (s_q119 N_) (s_q101 N_) (s_q156 N_) (s_q164 N_) (s_q111 N_)

abbrev TS_q73 : Type := Fl -> Int -> (Fl -> Bool) -> Bool

def G_q73 (N_ : Nat) (S_q108 : TS_q108) (S_q148 : TS_q148) (S_q95 : TS_q95) (x : Fl) (k_ : Int) (k0 : Fl -> Bool) : Bool :=
  (S_q108 x (fun nr => (S_q148 nr k_ (fun nr_1 nr_2 nr_3 => (S_q95 nr_1 (fun xr => (k0 xr)))))))

def s_q73 (N_ : Nat) : TS_q73 := G_q73 N_ (s_q108 N_) (s_q148 N_) (s_q95 N_)

abbrev TS_q189 : Type := List Fl -> (Fl -> Fl -> Fl -> Fl -> Bool) -> Bool

def G_q189 (N_ : Nat) (l : List Fl) (k0 : Fl -> Fl -> Fl -> Fl -> Bool) : Bool :=
  ((inR 0 (List.length l)) && ((inR 1 (List.length l)) && ((inR 2 (List.length l)) && ((inR 3 (List.length l)) && (k0 (List.getD l 0 none) (List.getD l 1 none) (List.getD l 2 none) (List.getD l 3 none))))))

def s_q189 (N_ : Nat) : TS_q189 := G_q189 N_

abbrev TS_q107 : Type := Fl -> Fl -> Fl -> Fl -> (Fl -> Fl -> Fl -> Fl -> Int -> Bool) -> Bool

def G_q107 (N_ : Nat) (S_q87 : TS_q87) (S_q36 : TS_q36) (S_q143 : TS_q143) (S_q122 : TS_q122) (S_q73 : TS_q73) (S_q120 : TS_q120) (S_q189 : TS_q189) (q_0 : Fl) (q_1 : Fl) (q_2 : Fl) (q_3 : Fl) (k0 : Fl -> Fl -> Fl -> Fl -> Int -> Bool) : Bool :=
  (S_q87 q_0 q_1 q_2 q_3 (fun cr => (S_q36 cr (fun nr => (cond (nr != 0) (k0 (some 0) (some 0) (some 0) (some 0) nr) (S_q143 q_0 q_1 q_2 q_3 (fun xsr => (S_q122 xsr (fun nr_1 cr_1 => (cond (!cr_1) (k0 (some 0) (some 0) (some 0) (some 0) 120) ((inR 0 (List.length xsr)) && ((decide (0 < (List.length xsr))) && ((fits .i64 (0 - nr_1)) && (S_q73 (List.getD xsr 0 none) (0 - nr_1) (fun xr => ((inR 0 (List.length xsr)) && ((decide (0 < (List.length xsr))) && ((inR 1 (List.length (List.set xsr 0 xr))) && ((decide (1 < (List.length (List.set xsr 0 xr)))) && ((fits .i64 (0 - nr_1)) && (S_q73 (List.getD (List.set xsr 0 xr) 1 none) (0 - nr_1) (fun xr_1 => ((inR 1 (List.length (List.set xsr 0 xr))) && ((decide (1 < (List.length (List.set xsr 0 xr)))) && ((inR 2 (List.length (List.set (List.set xsr 0 xr) 1 xr_1))) && ((decide (2 < (List.length (List.set (List.set xsr 0 xr) 1 xr_1)))) && ((fits .i64 (0 - nr_1)) && (S_q73 (List.getD (List.set (List.set xsr 0 xr) 1 xr_1) 2 none) (0 - nr_1) (fun xr_2 => ((inR 2 (List.length (List.set (List.set xsr 0 xr) 1 xr_1))) && ((decide (2 < (List.length (List.set (List.set xsr 0 xr) 1 xr_1)))) && ((inR 3 (List.length (List.set (List.set (List.set xsr 0 xr) 1 xr_1) 2 xr_2))) && ((decide (3 < (List.length (List.set (List.set (List.set xsr 0 xr) 1 xr_1) 2 xr_2)))) && ((fits .i64 (0 - nr_1)) && (S_q73 (List.getD (List.set (List.set (List.set xsr 0 xr) 1 xr_1) 2 xr_2) 3 none) (0 - nr_1) (fun xr_3 => ((inR 3 (List.length (List.set (List.set (List.set xsr 0 xr) 1 xr_1) 2 xr_2))) && ((decide (3 < (List.length (List.set (List.set (List.set xsr 0 xr) 1 xr_1) 2 xr_2)))) && ((inR 0 (List.length (List.set (List.set (List.set (List.set xsr 0 xr) 1 xr_1) 2 xr_2) 3 xr_3))) && ((decide (0 < (List.length (List.set (List.set (List.set (List.set xsr 0 xr) 1 xr_1) 2 xr_2) 3 xr_3)))) && ((inR 0 (List.length (List.set (List.set (List.set (List.set xsr 0 xr) 1 xr_1) 2 xr_2) 3 xr_3))) && ((decide (0 < (List.length (List.set (List.set (List.set (List.set xsr 0 xr) 1 xr_1) 2 xr_2) 3 xr_3)))) && ((inR 1 (List.length (List.set (List.set (List.set (List.set xsr 0 xr) 1 xr_1) 2 xr_2) 3 xr_3))) && ((decide (1 < (List.length (List.set (List.set (List.set (List.set xsr 0 xr) 1 xr_1) 2 xr_2) 3 xr_3)))) && ((inR 1 (List.length (List.set (List.set (List.set (List.set xsr 0 xr) 1 xr_1) 2 xr_2) 3 xr_3))) && ((decide (1 < (List.length (List.set (List.set (List.set (List.set xsr 0 xr) 1 xr_1) 2 xr_2) 3 xr_3)))) && ((inR 2 (List.length (List.set (List.set (List.set (List.set xsr 0 xr) 1 xr_1) 2 xr_2) 3 xr_3))) && ((decide (2 < (List.length (List.set (List.set (List.set (List.set xsr 0 xr) 1 xr_1) 2 xr_2) 3 xr_3)))) && ((inR 2 (List.length (List.set (List.set (List.set (List.set xsr 0 xr) 1 xr_1) 2 xr_2) 3 xr_3))) && ((decide (2 < (List.length (List.set (List.set (List.set (List.set xsr 0 xr) 1 xr_1) 2 xr_2) 3 xr_3)))) && ((inR 3 (List.length (List.set (List.set (List.set (List.set xsr 0 xr) 1 xr_1) 2 xr_2) 3 xr_3))) && ((decide (3 < (List.length (List.set (List.set (List.set (List.set xsr 0 xr) 1 xr_1) 2 xr_2) 3 xr_3)))) && ((inR 3 (List.length (List.set (List.set (List.set (List.set xsr 0 xr) 1 xr_1) 2 xr_2) 3 xr_3))) && ((decide (3 < (List.length (List.set (List.set (List.set (List.set xsr 0 xr) 1 xr_1) 2 xr_2) 3 xr_3)))) && (S_q120 (fadd (fadd (fadd (fmul (List.getD (List.set (List.set (List.set (List.set xsr 0 xr) 1 xr_1) 2 xr_2) 3 xr_3) 0 none) (List.getD (List.set (List.set (List.set (List.set xsr 0 xr) 1 xr_1) 2 xr_2) 3 xr_3) 0 none)) (fmul (List.getD (List.set (List.set (List.set (List.set xsr 0 xr) 1 xr_1) 2 xr_2) 3 xr_3) 1 none) (List.getD (List.set (List.set (List.set (List.set xsr 0 xr) 1 xr_1) 2 xr_2) 3 xr_3) 1 none))) (fmul (List.getD (List.set (List.set (List.set (List.set xsr 0 xr) 1 xr_1) 2 xr_2) 3 xr_3) 2 none) (List.getD (List.set (List.set (List.set (List.set xsr 0 xr) 1 xr_1) 2 xr_2) 3 xr_3) 2 none))) (fmul (List.getD (List.set (List.set (List.set (List.set xsr 0 xr) 1 xr_1) 2 xr_2) 3 xr_3) 3 none) (List.getD (List.set (List.set (List.set (List.set xsr 0 xr) 1 xr_1) 2 xr_2) 3 xr_3) 3 none))) (fun xr_4 => ((inR 0 (List.length (List.set (List.set (List.set (List.set xsr 0 xr) 1 xr_1) 2 xr_2) 3 xr_3))) && ((decide (0 < (List.length (List.set (List.set (List.set (List.set xsr 0 xr) 1 xr_1) 2 xr_2) 3 xr_3)))) && ((inR 0 (List.length (List.set (List.set (List.set (List.set xsr 0 xr) 1 xr_1) 2 xr_2) 3 xr_3))) && ((decide (0 < (List.length (List.set (List.set (List.set (List.set xsr 0 xr) 1 xr_1) 2 xr_2) 3 xr_3)))) && ((inR 1 (List.length (List.set (List.set (List.set (List.set (List.set xsr 0 xr) 1 xr_1) 2 xr_2) 3 xr_3) 0 (fdiv (List.getD (List.set (List.set (List.set (List.set xsr 0 xr) 1 xr_1) 2 xr_2) 3 xr_3) 0 none) xr_4)))) && ((decide (1 < (List.length (List.set (List.set (List.set (List.set (List.set xsr 0 xr) 1 xr_1) 2 xr_2) 3 xr_3) 0 (fdiv (List.getD (List.set (List.set (List.set (List.set xsr 0 xr) 1 xr_1) 2 xr_2) 3 xr_3) 0 none) xr_4))))) && ((inR 1 (List.length (List.set (List.set (List.set (List.set (List.set xsr 0 xr) 1 xr_1) 2 xr_2) 3 xr_3) 0 (fdiv (List.getD (List.set (List.set (List.set (List.set xsr 0 xr) 1 xr_1) 2 xr_2) 3 xr_3) 0 none) xr_4)))) && ((decide (1 < (List.length (List.set (List.set (List.set (List.set (List.set xsr 0 xr) 1 xr_1) 2 xr_2) 3 xr_3) 0 (fdiv (List.getD (List.set (List.set (List.set (List.set xsr 0 xr) 1 xr_1) 2 xr_2) 3 xr_3) 0 none) xr_4))))) && ((inR 2 (List.length (List.set (List.set (List.set (List.set (List.set (List.set xsr 0 xr) 1 xr_1) 2 xr_2) 3 xr_3) 0 (fdiv (List.getD (List.set (List.set (List.set (List.set xsr 0 xr) 1 xr_1) 2 xr_2) 3 xr_3) 0 none) xr_4)) 1 (fdiv (List.getD (List.set (List.set (List.set (List.set (List.set xsr 0 xr) 1 xr_1) 2 xr_2) 3 xr_3) 0 (fdiv (List.getD (List.set (List.set (List.set (List.set xsr 0 xr) 1 xr_1) 2 xr_2) 3 xr_3) 0 none) xr_4)) 1 none) xr_4)))) && ((decide (2 < (List.length (List.set (List.set (List.set (List.set (List.set (List.set xsr 0 xr) 1 xr_1) 2 xr_2) 3 xr_3) 0 (fdiv (List.getD (List.set (List.set (List.set (List.set xsr 0 xr) 1 xr_1) 2 xr_2) 3 xr_3) 0 none) xr_4)) 1 (fdiv (List.getD (List.set (List.set (List.set (List.set (List.set xsr 0 xr) 1 xr_1) 2 xr_2) 3 xr_3) 0 (fdiv (List.getD (List.set (List.set (List.set (List.set xsr 0 xr) 1 xr_1) 2 xr_2) 3 xr_3) 0 none) xr_4)) 1 none) xr_4))))) && ((inR 2 (List.length (List.set (List.set (List.set (List.set (List.set (List.set xsr 0 xr) 1 xr_1) 2 xr_2) 3 xr_3) 0 (fdiv (List.getD (List.set (List.set (List.set (List.set xsr 0 xr) 1 xr_1) 2 xr_2) 3 xr_3) 0 none) xr_4)) 1 (fdiv (List.getD (List.set (List.set (List.set (List.set (List.set xsr 0 xr) 1 xr_1) 2 xr_2) 3 xr_3) 0 (fdiv (List.getD (List.set (List.set (List.set (List.set xsr 0 xr) 1 xr_1) 2 xr_2) 3 xr_3) 0 none) xr_4)) 1 none) xr_4)))) && ((decide (2 < (List.length (List.set (List.set (List.set (List.set (List.set (List.set xsr 0 xr) 1 xr_1) 2 xr_2) 3 xr_3) 0 (fdiv (List.getD (List.set (List.set (List.set (List.set xsr 0 xr) 1 xr_1) 2 xr_2) 3 xr_3) 0 none) xr_4)) 1 (fdiv (List.getD (List.set (List.set (List.set (List.set (List.set xsr 0 xr) 1 xr_1) 2 xr_2) 3 xr_3) 0 (fdiv (List.getD (List.set (List.set (List.set (List.set xsr 0 xr) 1 xr_1) 2 xr_2) 3 xr_3) 0 none) xr_4)) 1 none) xr_4))))) && ((inR 3 (List.length (List.set (List.set (List.set (List.set (List.set (List.set (List.set xsr 0 xr) 1 xr_1) 2 xr_2) 3 xr_3) 0 (fdiv (List.getD (List.set (List.set (List.set (List.set xsr 0 xr) 1 xr_1) 2 xr_2) 3 xr_3) 0 none) xr_4)) 1 (fdiv (List.getD (List.set (List.set (List.set (List.set (List.set xsr 0 xr) 1 xr_1) 2 xr_2) 3 xr_3) 0 (fdiv (List.getD (List.set (List.set (List.set (List.set xsr 0 xr) 1 xr_1) 2 xr_2) 3 xr_3) 0 none) xr_4)) 1 none) xr_4)) 2 (fdiv (List.getD (List.set (List.set (List.set (List.set (List.set (List.set xsr 0 xr) 1 xr_1) 2 xr_2) 3 xr_3) 0 (fdiv (List.getD (List.set (List.set (List.set (List.set xsr 0 xr) 1 xr_1) 2 xr_2) 3 xr_3) 0 none) xr_4)) 1 (fdiv (List.getD (List.set (List.set (List.set (List.set (List.set xsr 0 xr) 1 xr_1) 2 xr_2) 3 xr_3) 0 (fdiv (List.getD (List.set (List.set (List.set (List.set xsr 0 xr) 1 xr_1) 2 xr_2) 3 xr_3) 0 none) xr_4)) 1 none) xr_4)) 2 none) xr_4)))) && ((decide (3 < (List.length (List.set (List.set (List.set (List.set (List.set (List.set (List.set xsr 0 xr) 1 xr_1) 2 xr_2) 3 xr_3) 0 (fdiv (List.getD (List.set (List.set (List.set (List.set xsr 0 xr) 1 xr_1) 2 xr_2) 3 xr_3) 0 none) xr_4)) 1 (fdiv (List.getD (List.set (List.set (List.set (List.set (List.set xsr 0 xr) 1 xr_1) 2 xr_2) 3 xr_3) 0 (fdiv (List.getD (List.set (List.set (List.set (List.set xsr 0 xr) 1 xr_1) 2 xr_2) 3 xr_3) 0 none) xr_4)) 1 none) xr_4)) 2 (fdiv (List.getD (List.set (List.set (List.set (List.set (List.set (List.set xsr 0 xr) 1 xr_1) 2 xr_2) 3 xr_3) 0 (fdiv (List.getD (List.set (List.set (List.set (List.set xsr 0 xr) 1 xr_1) 2 xr_2) 3 xr_3) 0 none) xr_4)) 1 (fdiv (List.getD (List.set (List.set (List.set (List.set (List.set xsr 0 xr) 1 xr_1) 2 xr_2) 3 xr_3) 0 (fdiv (List.getD (List.set (List.set (List.set (List.set xsr 0 xr) 1 xr_1) 2 xr_2) 3 xr_3) 0 none) xr_4)) 1 none) xr_4)) 2 none) xr_4))))) && ((inR 3 (List.length (List.set (List.set (List.set (List.set (List.set (List.set (List.set xsr 0 xr) 1 xr_1) 2 xr_2) 3 xr_3) 0 (fdiv (List.getD (List.set (List.set (List.set (List.set xsr 0 xr) 1 xr_1) 2 xr_2) 3 xr_3) 0 none) xr_4)) 1 (fdiv (List.getD (List.set (List.set (List.set (List.set (List.set xsr 0 xr) 1 xr_1) 2 xr_2) 3 xr_3) 0 (fdiv (List.getD (List.set (List.set (List.set (List.set xsr 0 xr) 1 xr_1) 2 xr_2) 3 xr_3) 0 none) xr_4)) 1 none) xr_4)) 2 (fdiv (List.getD (List.set (List.set (List.set (List.set (List.set (List.set xsr 0 xr) 1 xr_1) 2 xr_2) 3 xr_3) 0 (fdiv (List.getD (List.set (List.set (List.set (List.set xsr 0 xr) 1 xr_1) 2 xr_2) 3 xr_3) 0 none) xr_4)) 1 (fdiv (List.getD (List.set (List.set (List.set (List.set (List.set xsr 0 xr) 1 xr_1) 2 xr_2) 3 xr_3) 0 (fdiv (List.getD (List.set (List.set (List.set (List.set xsr 0 xr) 1 xr_1) 2 xr_2) 3 xr_3) 0 none) xr_4)) 1 none) xr_4)) 2 none) xr_4)))) && ((decide (3 < (List.length (List.set (List.set (List.set (List.set (List.set (List.set (List.set xsr 0 xr) 1 xr_1) 2 xr_2) 3 xr_3) 0 (fdiv (List.getD (List.set (List.set (List.set (List.set xsr 0 xr) 1 xr_1) 2 xr_2) 3 xr_3) 0 none) xr_4)) 1 (fdiv (List.getD (List.set (List.set (List.set (List.set (List.set xsr 0 xr) 1 xr_1) 2 xr_2) 3 xr_3) 0 (fdiv (List.getD (List.set (List.set (List.set (List.set xsr 0 xr) 1 xr_1) 2 xr_2) 3 xr_3) 0 none) xr_4)) 1 none) xr_4)) 2 (fdiv (List.getD (List.set (List.set (List.set (List.set (List.set (List.set xsr 0 xr) 1 xr_1) 2 xr_2) 3 xr_3) 0 (fdiv (List.getD (List.set (List.set (List.set (List.set xsr 0 xr) 1 xr_1) 2 xr_2) 3 xr_3) 0 none) xr_4)) 1 (fdiv (List.getD (List.set (List.set (List.set (List.set (List.set xsr 0 xr) 1 xr_1) 2 xr_2) 3 xr_3) 0 (fdiv (List.getD (List.set (List.set (List.set (List.set xsr 0 xr) 1 xr_1) 2 xr_2) 3 xr_3) 0 none) xr_4)) 1 none) xr_4)) 2 none) xr_4))))) && (S_q189 (List.set (List.set (List.set (List.set (List.set (List.set (List.set (List.set xsr 0 xr) 1 xr_1) 2 xr_2) 3 xr_3) 0 (fdiv (List.getD (List.set (List.set (List.set (List.set xsr 0 xr) 1 xr_1) 2 xr_2) 3 xr_3) 0 none) xr_4)) 1 (fdiv (List.getD (List.set (List.set (List.set (List.set (List.set xsr 0 xr) 1 xr_1) 2 xr_2) 3 xr_3) 0 (fdiv (List.getD (List.set (List.set (List.set (List.set xsr 0 xr) 1 xr_1) 2 xr_2) 3 xr_3) 0 none) xr_4)) 1 none) xr_4)) 2 (fdiv (List.getD (List.set (List.set (List.set (List.set (List.set (List.set xsr 0 xr) 1 xr_1) 2 xr_2) 3 xr_3) 0 (fdiv (List.getD (List.set (List.set (List.set (List.set xsr 0 xr) 1 xr_1) 2 xr_2) 3 xr_3) 0 none) xr_4)) 1 (fdiv (List.getD (List.set (List.set (List.set (List.set (List.set xsr 0 xr) 1 xr_1) 2 xr_2) 3 xr_3) 0 (fdiv (List.getD (List.set (List.set (List.set (List.set xsr 0 xr) 1 xr_1) 2 xr_2) 3 xr_3) 0 none) xr_4)) 1 none) xr_4)) 2 none) xr_4)) 3 (fdiv (List.getD (List.set (List.set (List.set (List.set (List.set (List.set (List.set xsr 0 xr) 1 xr_1) 2 xr_2) 3 xr_3) 0 (fdiv (List.getD (List.set (List.set (List.set (List.set xsr 0 xr) 1 xr_1) 2 xr_2) 3 xr_3) 0 none) xr_4)) 1 (fdiv (List.getD (List.set (List.set (List.set (List.set (List.set xsr 0 xr) 1 xr_1) 2 xr_2) 3 xr_3) 0 (fdiv (List.getD (List.set (List.set (List.set (List.set xsr 0 xr) 1 xr_1) 2 xr_2) 3 xr_3) 0 none) xr_4)) 1 none) xr_4)) 2 (fdiv (List.getD (List.set (List.set (List.set (List.set (List.set (List.set xsr 0 xr) 1 xr_1) 2 xr_2) 3 xr_3) 0 (fdiv (List.getD (List.set (List.set (List.set (List.set xsr 0 xr) 1 xr_1) 2 xr_2) 3 xr_3) 0 none) xr_4)) 1 (fdiv (List.getD (List.set (List.set (List.set (List.set (List.set xsr 0 xr) 1 xr_1) 2 xr_2) 3 xr_3) 0 (fdiv (List.getD (List.set (List.set (List.set (List.set xsr 0 xr) 1 xr_1) 2 xr_2) 3 xr_3) 0 none) xr_4)) 1 none) xr_4)) 2 none) xr_4)) 3 none) xr_4)) (fun xr_5 xr_6 xr_7 xr_8 => (k0 xr_5 xr_6 xr_7 xr_8 0)))))))))))))))))))))))))))))))))))))))))))))))))))))))))))))))))))))))))))

def s_q107 (N_ : Nat) : TS_q107 := G_q107 (N_ + 24) (s_q87 N_) (s_q36 N_) (s_q143 N_) (s_q122 N_) (s_q73 N_) (s_q120 N_) (s_q189 N_)

abbrev TS_q134 : Type := Fl -> Fl -> Fl -> (Fl -> Fl -> Fl -> Fl -> Int -> Bool) -> Bool

def G_q134 (N_ : Nat) (S_q14 : TS_q14) (S_q36 : TS_q36) (S_q107 : TS_q107) (v_0 : Fl) (v_1 : Fl) (v_2 : Fl) (k0 : Fl -> Fl -> Fl -> Fl -> Int -> Bool) : Bool :=
  (S_q14 v_0 v_1 v_2 (fun cr => (S_q36 cr (fun nr => (cond (nr != 0) (k0 (some 0) (some 0) (some 0) (some 0) nr) (S_q107 (some 4607182418800017408) (fdiv v_0 (some 4611686018427387904)) (fdiv v_1 (some 4611686018427387904)) (fdiv v_2 (some 4611686018427387904)) (fun xr xr_1 xr_2 xr_3 nr_1 => (k0 xr xr_1 xr_2 xr_3 nr_1))))))))

def s_q134 (N_ : Nat) : TS_q134 := G_q134 N_ (s_q14 N_) (s_q36 N_) (s_q107 N_)

abbrev TS_q47 : Type := Fl -> Fl -> Fl -> Fl -> Int -> Fl -> Fl -> Fl -> Fl -> Int -> (Bool -> Bool) -> Bool

def G_q47 (N_ : Nat) (S_q34 : TS_q34) (a_0 : Fl) (a_1 : Fl) (a_2 : Fl) (a_3 : Fl) (e : Int) (b_0 : Fl) (b_1 : Fl) (b_2 : Fl) (b_3 : Fl) (n : Int) (k0 : Bool -> Bool) : Bool :=
  (S_q34 a_0 b_0 (fun cr => (cond (cr == true) (S_q34 a_1 b_1 (fun cr_1 => (cond (cr_1 == true) (S_q34 a_2 b_2 (fun cr_2 => (cond (cr_2 == true) (S_q34 a_3 b_3 (fun cr_3 => (cond (cr_3 == true) (k0 (e == n)) (k0 false)))) (k0 false)))) (k0 false)))) (k0 false))))

def s_q47 (N_ : Nat) : TS_q47 := G_q47 N_ (s_q34 N_)

abbrev TS_q184 : Type := List Fl -> (Int -> Bool) -> Bool

def G_q184 (N_ : Nat) (S_q97 : TS_q97) (x : List Fl) (k0 : Int -> Bool) : Bool :=
  (cond (decide ((((List.length x) : Nat) : Int) > 48)) (k0 1) (S_q97 x (fun cr => (cond (!cr) (k0 4) (k0 0)))))

def s_q184 (N_ : Nat) : TS_q184 := G_q184 N_ (s_q97 N_)

abbrev TS_q173 : Type := List Fl -> (Int -> Bool -> Bool) -> Bool

def st_qr_power_0 (N_ : Nat) (S_m_Abs : TS_m_Abs) (S_q100 : TS_q100) (x_1 : List Fl) (t9 : Int) (e0 : Fl -> Bool) : (Fl × Int) -> ((Fl × Int) -> Bool) -> Bool := fun v_ K => match v_ with
  | (most, t10) => (cond (decide (t10 < t9)) ((inR t10 (List.length x_1)) && (S_m_Abs (List.getD x_1 (Int.toNat t10) none) (fun xr => ((fits .i64 (t10 + 1)) && (K ((fmm true most xr), (t10 + 1))))))) (e0 most))

def G_q173 (N_ : Nat) (S_m_Abs : TS_m_Abs) (S_q100 : TS_q100) (x : List Fl) (k0 : Int -> Bool -> Bool) : Bool :=
  (iterG N_ (st_qr_power_0 N_ S_m_Abs S_q100 x (((List.length x) : Nat) : Int) (fun most_1 => (cond (feq most_1 (some 0)) (k0 0 false) (S_q100 most_1 (fun xr_1 nr => ((fits .i64 (nr - 1)) && (k0 (nr - 1) true))))))) ((some 0), 0))

def s_q173 (N_ : Nat) : TS_q173 := G_q173 N_ (s_m_Abs N_) (s_q100 N_)

abbrev TS_q153 : Type := List Fl -> Int -> (Fl -> List Fl -> Bool) -> Bool

def st_qr_scaled_0 (N_ : Nat) (S_q118 : TS_q118) (S_q120 : TS_q120) (x_1 : List Fl) (k__1 : Int) (t13 : Int) (e0 : Fl -> List Fl -> Bool) : (Fl × Int × List Fl) -> ((Fl × Int × List Fl) -> Bool) -> Bool := fun v_ K => match v_ with
  | (s, t14, y) => (cond (decide (t14 < t13)) ((inR t14 (List.length x_1)) && ((fits .i64 (0 - k__1)) && (S_q118 (List.getD x_1 (Int.toNat t14) none) (0 - k__1) (fun xr => ((inR t14 (List.length y)) && ((decide ((Int.toNat t14) < (List.length y))) && ((inR t14 (List.length (List.set y (Int.toNat t14) xr))) && ((decide ((Int.toNat t14) < (List.length (List.set y (Int.toNat t14) xr)))) && ((inR t14 (List.length (List.set y (Int.toNat t14) xr))) && ((decide ((Int.toNat t14) < (List.length (List.set y (Int.toNat t14) xr)))) && ((fits .i64 (t14 + 1)) && (K ((fadd s (fmul (List.getD (List.set y (Int.toNat t14) xr) (Int.toNat t14) none) (List.getD (List.set y (Int.toNat t14) xr) (Int.toNat t14) none))), (t14 + 1), (List.set y (Int.toNat t14) xr)))))))))))))) (e0 s y))

def G_q153 (N_ : Nat) (S_q118 : TS_q118) (S_q120 : TS_q120) (x : List Fl) (k_ : Int) (k0 : Fl -> List Fl -> Bool) : Bool :=
  ((mkOk 8 (((List.length x) : Nat) : Int) (((List.length x) : Nat) : Int)) && (iterG N_ (st_qr_scaled_0 N_ S_q118 S_q120 x k_ (((List.length x) : Nat) : Int) (fun s_1 y_1 => (S_q120 s_1 (fun xr_1 => (k0 xr_1 y_1))))) ((some 0), 0, (List.replicate (Int.toNat (((List.length x) : Nat) : Int)) (some 0)))))

def s_q153 (N_ : Nat) : TS_q153 := G_q153 N_ (s_q118 N_) (s_q120 N_)

abbrev TS_q158 : Type := List Fl -> (Fl -> Bool) -> Bool

def G_q158 (N_ : Nat) (S_q173 : TS_q173) (S_q153 : TS_q153) (S_q118 : TS_q118) (x : List Fl) (k0 : Fl -> Bool) : Bool :=
  (S_q173 x (fun nr cr => (cond (!cr) (k0 (some 0)) (S_q153 x nr (fun xr xsr => (S_q118 xr nr (fun xr_1 => (k0 xr_1))))))))

def s_q158 (N_ : Nat) : TS_q158 := G_q158 N_ (s_q173 N_) (s_q153 N_) (s_q118 N_)

abbrev TS_q166 : Type := Fl -> (Bool -> Bool) -> Bool

def G_q166 (N_ : Nat) (x : Fl) (k0 : Bool -> Bool) : Bool :=
  (k0 (feq (fsub x x) (some 0)))

def s_q166 (N_ : Nat) : TS_q166 := G_q166 N_

abbrev TS_q152 : Type := List Fl -> (Fl -> Int -> Bool) -> Bool

def G_q152 (N_ : Nat) (S_q184 : TS_q184) (S_q158 : TS_q158) (S_q166 : TS_q166) (x : List Fl) (k0 : Fl -> Int -> Bool) : Bool :=
  (S_q184 x (fun nr => (cond (nr != 0) (k0 (some 0) nr) (S_q158 x (fun xr => (S_q166 xr (fun cr => (cond (!cr) (k0 (some 0) 5) (k0 xr 0)))))))))

def s_q152 (N_ : Nat) : TS_q152 := G_q152 N_ (s_q184 N_) (s_q158 N_) (s_q166 N_)

abbrev TS_q77 : Type := Fl -> Fl -> Fl -> (Fl -> Fl -> Fl -> Int -> Bool) -> Bool

def G_q77 (N_ : Nat) (S_q152 : TS_q152) (v_0 : Fl) (v_1 : Fl) (v_2 : Fl) (k0 : Fl -> Fl -> Fl -> Int -> Bool) : Bool :=
  (S_q152 [v_0, v_1, v_2] (fun xr nr => (cond (nr != 0) (k0 (some 0) (some 0) (some 0) nr) (k0 (fdiv v_0 xr) (fdiv v_1 xr) (fdiv v_2 xr) 0))))

def s_q77 (N_ : Nat) : TS_q77 := G_q77 N_ (s_q152 N_)

abbrev TS_q91 : Type := Fl -> Fl -> Fl -> Fl -> Fl -> Fl -> (Fl -> Fl -> Fl -> Fl -> Int -> Bool) -> Bool

def J_q204 (N_ : Nat) (S_q13 : TS_q13) (S_q77 : TS_q77) (S_q49 : TS_q49) (S_q30 : TS_q30) (S_m_Abs : TS_m_Abs) (S_q63 : TS_q63) (a_0 : Fl) (a_1 : Fl) (a_2 : Fl) (b_0 : Fl) (b_1 : Fl) (b_2 : Fl) (q_3 : Fl) (q_4 : Fl) (q_5 : Fl) (q_6 : Fl) (k0 : Fl -> Fl -> Fl -> Fl -> Int -> Bool) : Bool :=
  (S_q63 q_3 q_4 q_5 q_6 (fun xr_51 xr_52 xr_53 xr_54 nr_3 => (k0 xr_51 xr_52 xr_53 xr_54 nr_3)))

def J_q183 (N_ : Nat) (S_q13 : TS_q13) (S_q77 : TS_q77) (S_q49 : TS_q49) (S_q30 : TS_q30) (S_m_Abs : TS_m_Abs) (S_q63 : TS_q63) (a_0 : Fl) (a_1 : Fl) (a_2 : Fl) (b_0 : Fl) (b_1 : Fl) (b_2 : Fl) (q : Fl) (q_1 : Fl) (q_2 : Fl) (k0 : Fl -> Fl -> Fl -> Fl -> Int -> Bool) : Bool :=
  (S_q63 (some 0) q q_1 q_2 (fun xr_47 xr_48 xr_49 xr_50 nr_2 => (k0 xr_47 xr_48 xr_49 xr_50 nr_2)))

def G_q91 (N_ : Nat) (S_q13 : TS_q13) (S_q77 : TS_q77) (S_q49 : TS_q49) (S_q30 : TS_q30) (S_m_Abs : TS_m_Abs) (S_q63 : TS_q63) (a_0 : Fl) (a_1 : Fl) (a_2 : Fl) (b_0 : Fl) (b_1 : Fl) (b_2 : Fl) (k0 : Fl -> Fl -> Fl -> Fl -> Int -> Bool) : Bool :=
  (S_q13 [a_0, a_1, a_2] (fun cr => (cond ((!cr) == false) (S_q13 [b_0, b_1, b_2] (fun cr_1 => (cond (!cr_1) (k0 (some 0) (some 0) (some 0) (some 0) 4) (cond (((feq a_0 (some 0)) && ((feq a_1 (some 0)) && (feq a_2 (some 0)))) == false) (cond ((feq b_0 (some 0)) && ((feq b_1 (some 0)) && (feq b_2 (some 0)))) (k0 (some 0) (some 0) (some 0) (some 0) 120) (S_q77 a_0 a_1 a_2 (fun xr xr_1 xr_2 nr => (cond (nr != 0) (k0 (some 0) (some 0) (some 0) (some 0) nr) (S_q77 b_0 b_1 b_2 (fun xr_3 xr_4 xr_5 nr_1 => (cond (nr_1 != 0) (k0 (some 0) (some 0) (some 0) (some 0) nr_1) (S_q49 xr xr_1 xr_2 xr_3 xr_4 xr_5 (fun xr_6 xr_7 xr_8 => (S_q30 (fadd (some 4607182418800017408) (fadd (fadd (fmul xr xr_3) (fmul xr_1 xr_4)) (fmul xr_2 xr_5))) xr_6 xr_7 xr_8 (cond ((feq (fadd (some 4607182418800017408) (fadd (fadd (fmul xr xr_3) (fmul xr_1 xr_4)) (fmul xr_2 xr_5))) (some 0)) && ((feq xr_6 (some 0)) && ((feq xr_7 (some 0)) && (feq xr_8 (some 0))))) (S_m_Abs xr (fun xr_9 => (S_m_Abs xr (fun xr_10 => (cond (flt xr_9 xr_10) (S_m_Abs xr_1 (fun xr_11 => (S_m_Abs xr (fun xr_12 => (cond (flt xr_11 xr_12) (S_m_Abs xr_2 (fun xr_13 => (S_m_Abs xr_1 (fun xr_14 => (cond (flt xr_13 xr_14) (S_q49 xr xr_1 xr_2 (some 0) (some 0) (some 4607182418800017408) (fun xr_15 xr_16 xr_17 => (J_q183 N_ S_q13 S_q77 S_q49 S_q30 S_m_Abs S_q63 a_0 a_1 a_2 b_0 b_1 b_2 xr_15 xr_16 xr_17 k0))) (S_q49 xr xr_1 xr_2 (some 0) (some 4607182418800017408) (some 0) (fun xr_18 xr_19 xr_20 => (J_q183 N_ S_q13 S_q77 S_q49 S_q30 S_m_Abs S_q63 a_0 a_1 a_2 b_0 b_1 b_2 xr_18 xr_19 xr_20 k0)))))))) (S_m_Abs xr_2 (fun xr_21 => (S_m_Abs xr (fun xr_22 => (cond (flt xr_21 xr_22) (S_q49 xr xr_1 xr_2 (some 0) (some 0) (some 4607182418800017408) (fun xr_23 xr_24 xr_25 => (J_q183 N_ S_q13 S_q77 S_q49 S_q30 S_m_Abs S_q63 a_0 a_1 a_2 b_0 b_1 b_2 xr_23 xr_24 xr_25 k0))) (S_q49 xr xr_1 xr_2 (some 4607182418800017408) (some 0) (some 0) (fun xr_26 xr_27 xr_28 => (J_q183 N_ S_q13 S_q77 S_q49 S_q30 S_m_Abs S_q63 a_0 a_1 a_2 b_0 b_1 b_2 xr_26 xr_27 xr_28 k0))))))))))))) (S_m_Abs xr_1 (fun xr_29 => (S_m_Abs xr (fun xr_30 => (cond (flt xr_29 xr_30) (S_m_Abs xr_2 (fun xr_31 => (S_m_Abs xr_1 (fun xr_32 => (cond (flt xr_31 xr_32) (S_q49 xr xr_1 xr_2 (some 0) (some 0) (some 4607182418800017408) (fun xr_33 xr_34 xr_35 => (J_q183 N_ S_q13 S_q77 S_q49 S_q30 S_m_Abs S_q63 a_0 a_1 a_2 b_0 b_1 b_2 xr_33 xr_34 xr_35 k0))) (S_q49 xr xr_1 xr_2 (some 0) (some 4607182418800017408) (some 0) (fun xr_36 xr_37 xr_38 => (J_q183 N_ S_q13 S_q77 S_q49 S_q30 S_m_Abs S_q63 a_0 a_1 a_2 b_0 b_1 b_2 xr_36 xr_37 xr_38 k0)))))))) (S_m_Abs xr_2 (fun xr_39 => (S_m_Abs xr (fun xr_40 => (cond (flt xr_39 xr_40) (S_q49 xr xr_1 xr_2 (some 0) (some 0) (some 4607182418800017408) (fun xr_41 xr_42 xr_43 => (J_q183 N_ S_q13 S_q77 S_q49 S_q30 S_m_Abs S_q63 a_0 a_1 a_2 b_0 b_1 b_2 xr_41 xr_42 xr_43 k0))) (S_q49 xr xr_1 xr_2 (some 4607182418800017408) (some 0) (some 0) (fun xr_44 xr_45 xr_46 => (J_q183 N_ S_q13 S_q77 S_q49 S_q30 S_m_Abs S_q63 a_0 a_1 a_2 b_0 b_1 b_2 xr_44 xr_45 xr_46 k0)))))))))))))))))) (J_q204 N_ S_q13 S_q77 S_q49 S_q30 S_m_Abs S_q63 a_0 a_1 a_2 b_0 b_1 b_2 (fadd (some 4607182418800017408) (fadd (fadd (fmul xr xr_3) (fmul xr_1 xr_4)) (fmul xr_2 xr_5))) xr_6 xr_7 xr_8 k0)))))))))))) (k0 (some 0) (some 0) (some 0) (some 0) 120))))) (k0 (some 0) (some 0) (some 0) (some 0) 4))))

def s_q91 (N_ : Nat) : TS_q91 := G_q91 (N_ + 24) (s_q13 N_) (s_q77 N_) (s_q49 N_) (s_q30 N_) (s_m_Abs N_) (s_q63 N_)

abbrev TS_q177 : Type := List Fl -> (Int -> Bool) -> Bool

def G_q177 (N_ : Nat) (S_q52 : TS_q52) (x : List Fl) (k0 : Int -> Bool) : Bool :=
  (cond (decide ((((List.length x) : Nat) : Int) > 48)) (k0 1) (S_q52 x (fun cr => (cond (!cr) (k0 4) (k0 0)))))

def s_q177 (N_ : Nat) : TS_q177 := G_q177 N_ (s_q52 N_)

abbrev TS_q165 : Type := List Fl -> List Fl -> (Fl -> Bool) -> Bool

def st_z08_Dot_0 (N_ : Nat) (x_1 : List Fl) (y_1 : List Fl) (e0 : Fl -> Bool) : (Fl × Int) -> ((Fl × Int) -> Bool) -> Bool := fun v_ K => match v_ with
  | (s, i) => (cond (decide (i < (((List.length x_1) : Nat) : Int))) ((inR i (List.length x_1)) && ((inR i (List.length y_1)) && ((fits .i64 (i + 1)) && (K ((fadd s (fmul (List.getD x_1 (Int.toNat i) none) (List.getD y_1 (Int.toNat i) none))), (i + 1)))))) (e0 s))

def G_q165 (N_ : Nat) (x : List Fl) (y : List Fl) (k0 : Fl -> Bool) : Bool :=
  (iterG N_ (st_z08_Dot_0 N_ x y (fun s_1 => (k0 s_1))) ((some 0), 0))

def s_q165 (N_ : Nat) : TS_q165 := G_q165 N_

abbrev TS_q138 : Type := List Fl -> Int -> (Fl -> List Fl -> Bool) -> Bool

def st_z10_scaled_0 (N_ : Nat) (S_q73 : TS_q73) (S_q165 : TS_q165) (S_q120 : TS_q120) (x_2 : List Fl) (k__2 : Int) (e0 : List Fl -> Bool) : (Int × List Fl) -> ((Int × List Fl) -> Bool) -> Bool := fun v_ K => match v_ with
  | (i_1, y) => (cond (decide (i_1 < (((List.length x_2) : Nat) : Int))) ((inR i_1 (List.length x_2)) && ((fits .i64 (0 - k__2)) && (S_q73 (List.getD x_2 (Int.toNat i_1) none) (0 - k__2) (fun xr_1 => ((decide ((List.length (y ++ [xr_1])) * 8 <= 140737488355328)) && ((fits .i64 (i_1 + 1)) && (K ((i_1 + 1), (y ++ [xr_1]))))))))) (e0 y))

def G_q138 (N_ : Nat) (S_q73 : TS_q73) (S_q165 : TS_q165) (S_q120 : TS_q120) (x : List Fl) (k_ : Int) (k0 : Fl -> List Fl -> Bool) : Bool :=
  (iterG N_ (st_z10_scaled_0 N_ S_q73 S_q165 S_q120 x k_ (fun y_1 => (S_q165 y_1 y_1 (fun xr_2 => (S_q120 xr_2 (fun xr_3 => (k0 xr_3 y_1))))))) (0, []))

def s_q138 (N_ : Nat) : TS_q138 := G_q138 N_ (s_q73 N_) (s_q165 N_) (s_q120 N_)

abbrev TS_q89 : Type := List Fl -> (Fl -> Int -> Bool) -> Bool

def G_q89 (N_ : Nat) (S_q177 : TS_q177) (S_q122 : TS_q122) (S_q138 : TS_q138) (S_q73 : TS_q73) (S_q86 : TS_q86) (x : List Fl) (k0 : Fl -> Int -> Bool) : Bool :=
  (S_q177 x (fun nr => (cond (nr != 0) (k0 (some 0) nr) (S_q122 x (fun nr_1 cr => (cond (!cr) (k0 (some 0) 0) (S_q138 x nr_1 (fun xr xsr => (S_q73 xr nr_1 (fun xr_1 => (S_q86 xr_1 (fun cr_1 => (cond (!cr_1) (k0 (some 0) 5) (k0 xr_1 0))))))))))))))

def s_q89 (N_ : Nat) : TS_q89 := G_q89 N_ (s_q177 N_) (s_q122 N_) (s_q138 N_) (s_q73 N_) (s_q86 N_)

abbrev TS_q105 : Type := Fl -> Fl -> Fl -> Fl -> Fl -> Fl -> (Fl -> Fl -> Fl -> Fl -> Fl -> Int -> Bool) -> Bool

def J_q201 (N_ : Nat) (S_q14 : TS_q14) (S_q23 : TS_q23) (S_q89 : TS_q89) (S_q66 : TS_q66) (S_m_Abs : TS_m_Abs) (S_q107 : TS_q107) (a_0 : Fl) (a_1 : Fl) (a_2 : Fl) (b_0 : Fl) (b_1 : Fl) (b_2 : Fl) (dot_1 : Fl) (q_3 : Fl) (q_4 : Fl) (q_5 : Fl) (q_6 : Fl) (k0 : Fl -> Fl -> Fl -> Fl -> Fl -> Int -> Bool) : Bool :=
  (S_q107 q_3 q_4 q_5 q_6 (fun xr_27 xr_28 xr_29 xr_30 nr_4 => (k0 xr_27 xr_28 xr_29 xr_30 dot_1 nr_4)))

def J_q193 (N_ : Nat) (S_q14 : TS_q14) (S_q23 : TS_q23) (S_q89 : TS_q89) (S_q66 : TS_q66) (S_m_Abs : TS_m_Abs) (S_q107 : TS_q107) (a_0 : Fl) (a_1 : Fl) (a_2 : Fl) (b_0 : Fl) (b_1 : Fl) (b_2 : Fl) (dot : Fl) (q : Fl) (q_1 : Fl) (q_2 : Fl) (k0 : Fl -> Fl -> Fl -> Fl -> Fl -> Int -> Bool) : Bool :=
  (S_q107 (some 0) q q_1 q_2 (fun xr_23 xr_24 xr_25 xr_26 nr_3 => (k0 xr_23 xr_24 xr_25 xr_26 dot nr_3)))

def G_q105 (N_ : Nat) (S_q14 : TS_q14) (S_q23 : TS_q23) (S_q89 : TS_q89) (S_q66 : TS_q66) (S_m_Abs : TS_m_Abs) (S_q107 : TS_q107) (a_0 : Fl) (a_1 : Fl) (a_2 : Fl) (b_0 : Fl) (b_1 : Fl) (b_2 : Fl) (k0 : Fl -> Fl -> Fl -> Fl -> Fl -> Int -> Bool) : Bool :=
  (S_q14 a_0 a_1 a_2 (fun cr => (S_q14 b_0 b_1 b_2 (fun cr_1 => (S_q23 cr cr_1 (fun nr => (cond (nr != 0) (k0 (some 0) (some 0) (some 0) (some 0) (some 0) nr) (cond (((feq a_0 (some 0)) && ((feq a_1 (some 0)) && (feq a_2 (some 0)))) == false) (cond ((feq b_0 (some 0)) && ((feq b_1 (some 0)) && (feq b_2 (some 0)))) (k0 (some 0) (some 0) (some 0) (some 0) (some 0) 120) (S_q89 [a_0, a_1, a_2] (fun xr nr_1 => (S_q89 [b_0, b_1, b_2] (fun xr_1 nr_2 => (cond ((nr_1 != 0) == false) (cond (nr_2 != 0) (k0 (some 0) (some 0) (some 0) (some 0) (some 0) 5) (S_q66 (fdiv a_0 xr) (fdiv a_1 xr) (fdiv a_2 xr) (fdiv b_0 xr_1) (fdiv b_1 xr_1) (fdiv b_2 xr_1) (fun xr_2 xr_3 xr_4 => (cond ((feq (fadd (some 4607182418800017408) (fadd (fadd (fmul (fdiv a_0 xr) (fdiv b_0 xr_1)) (fmul (fdiv a_1 xr) (fdiv b_1 xr_1))) (fmul (fdiv a_2 xr) (fdiv b_2 xr_1)))) (some 0)) == true) (cond ((feq xr_2 (some 0)) && ((feq xr_3 (some 0)) && (feq xr_4 (some 0)))) (S_m_Abs (fdiv a_1 xr) (fun xr_5 => (S_m_Abs (fdiv a_0 xr) (fun xr_6 => (cond (flt xr_5 xr_6) (S_m_Abs (fdiv a_2 xr) (fun xr_7 => (S_m_Abs (fdiv a_1 xr) (fun xr_8 => (cond (flt xr_7 xr_8) (S_q66 (fdiv a_0 xr) (fdiv a_1 xr) (fdiv a_2 xr) (some 0) (some 0) (some 4607182418800017408) (fun xr_9 xr_10 xr_11 => (J_q193 N_ S_q14 S_q23 S_q89 S_q66 S_m_Abs S_q107 a_0 a_1 a_2 b_0 b_1 b_2 (fadd (fadd (fmul (fdiv a_0 xr) (fdiv b_0 xr_1)) (fmul (fdiv a_1 xr) (fdiv b_1 xr_1))) (fmul (fdiv a_2 xr) (fdiv b_2 xr_1))) xr_9 xr_10 xr_11 k0))) (S_q66 (fdiv a_0 xr) (fdiv a_1 xr) (fdiv a_2 xr) (some 0) (some 4607182418800017408) (some 0) (fun xr_12 xr_13 xr_14 => (J_q193 N_ S_q14 S_q23 S_q89 S_q66 S_m_Abs S_q107 a_0 a_1 a_2 b_0 b_1 b_2 (fadd (fadd (fmul (fdiv a_0 xr) (fdiv b_0 xr_1)) (fmul (fdiv a_1 xr) (fdiv b_1 xr_1))) (fmul (fdiv a_2 xr) (fdiv b_2 xr_1))) xr_12 xr_13 xr_14 k0)))))))) (S_m_Abs (fdiv a_2 xr) (fun xr_15 => (S_m_Abs (fdiv a_0 xr) (fun xr_16 => (cond (flt xr_15 xr_16) (S_q66 (fdiv a_0 xr) (fdiv a_1 xr) (fdiv a_2 xr) (some 0) (some 0) (some 4607182418800017408) (fun xr_17 xr_18 xr_19 => (J_q193 N_ S_q14 S_q23 S_q89 S_q66 S_m_Abs S_q107 a_0 a_1 a_2 b_0 b_1 b_2 (fadd (fadd (fmul (fdiv a_0 xr) (fdiv b_0 xr_1)) (fmul (fdiv a_1 xr) (fdiv b_1 xr_1))) (fmul (fdiv a_2 xr) (fdiv b_2 xr_1))) xr_17 xr_18 xr_19 k0))) (S_q66 (fdiv a_0 xr) (fdiv a_1 xr) (fdiv a_2 xr) (some 4607182418800017408) (some 0) (some 0) (fun xr_20 xr_21 xr_22 => (J_q193 N_ S_q14 S_q23 S_q89 S_q66 S_m_Abs S_q107 a_0 a_1 a_2 b_0 b_1 b_2 (fadd (fadd (fmul (fdiv a_0 xr) (fdiv b_0 xr_1)) (fmul (fdiv a_1 xr) (fdiv b_1 xr_1))) (fmul (fdiv a_2 xr) (fdiv b_2 xr_1))) xr_20 xr_21 xr_22 k0))))))))))))) (J_q201 N_ S_q14 S_q23 S_q89 S_q66 S_m_Abs S_q107 a_0 a_1 a_2 b_0 b_1 b_2 (fadd (fadd (fmul (fdiv a_0 xr) (fdiv b_0 xr_1)) (fmul (fdiv a_1 xr) (fdiv b_1 xr_1))) (fmul (fdiv a_2 xr) (fdiv b_2 xr_1))) (fadd (some 4607182418800017408) (fadd (fadd (fmul (fdiv a_0 xr) (fdiv b_0 xr_1)) (fmul (fdiv a_1 xr) (fdiv b_1 xr_1))) (fmul (fdiv a_2 xr) (fdiv b_2 xr_1)))) xr_2 xr_3 xr_4 k0)) (J_q201 N_ S_q14 S_q23 S_q89 S_q66 S_m_Abs S_q107 a_0 a_1 a_2 b_0 b_1 b_2 (fadd (fadd (fmul (fdiv a_0 xr) (fdiv b_0 xr_1)) (fmul (fdiv a_1 xr) (fdiv b_1 xr_1))) (fmul (fdiv a_2 xr) (fdiv b_2 xr_1))) (fadd (some 4607182418800017408) (fadd (fadd (fmul (fdiv a_0 xr) (fdiv b_0 xr_1)) (fmul (fdiv a_1 xr) (fdiv b_1 xr_1))) (fmul (fdiv a_2 xr) (fdiv b_2 xr_1)))) xr_2 xr_3 xr_4 k0))))) (k0 (some 0) (some 0) (some 0) (some 0) (some 0) 5))))))) (k0 (some 0) (some 0) (some 0) (some 0) (some 0) 120)))))))))

def s_q105 (N_ : Nat) : TS_q105 := G_q105 (N_ + 24) (s_q14 N_) (s_q23 N_) (s_q89 N_) (s_q66 N_) (s_m_Abs N_) (s_q107 N_)

abbrev TS_q62 : Type := Int -> Int -> Int -> Int -> Int -> Int -> Int -> Int -> Int -> Int -> (Bool -> Bool) -> Bool

def G_q62 (N_ : Nat) (S_q46 : TS_q46) (S_q50 : TS_q50) (S_q115 : TS_q115) (S_q157 : TS_q157) (S_q54 : TS_q54) (S_q51 : TS_q51) (S_q132 : TS_q132) (S_q141 : TS_q141) (S_q133 : TS_q133) (S_q142 : TS_q142) (S_q114 : TS_q114) (S_q134 : TS_q134) (S_q47 : TS_q47) (S_q91 : TS_q91) (S_q105 : TS_q105) (x_0 : Int) (x_1 : Int) (x_2 : Int) (x_3 : Int) (u_0 : Int) (u_1 : Int) (u_2 : Int) (v_0 : Int) (v_1 : Int) (v_2 : Int) (k0 : Bool -> Bool) : Bool :=
  (S_q46 x_0 x_1 x_2 x_3 (fun xr xr_1 xr_2 xr_3 => (S_q50 u_0 u_1 u_2 (fun xr_4 xr_5 xr_6 => (S_q50 v_0 v_1 v_2 (fun xr_7 xr_8 xr_9 => (S_q115 xr xr_1 xr_2 xr_3 xr_4 xr_5 xr_6 (fun xr_10 xr_11 xr_12 nr => (S_q157 xr xr_1 xr_2 xr_3 xr_4 xr_5 xr_6 (fun xr_13 xr_14 xr_15 nr_1 => (S_q54 xr_10 xr_11 xr_12 nr xr_13 xr_14 xr_15 nr_1 (fun cr => (cond ((!cr) == false) (S_q51 (fun cr_1 => (cond (!cr_1) (k0 false) (S_q132 xr_4 xr_5 xr_6 xr_7 xr_8 xr_9 (fun xr_16 xr_17 xr_18 nr_2 => (S_q141 xr_4 xr_5 xr_6 xr_7 xr_8 xr_9 (fun xr_19 xr_20 xr_21 nr_3 => (S_q54 xr_16 xr_17 xr_18 nr_2 xr_19 xr_20 xr_21 nr_3 (fun cr_2 => (cond (!cr_2) (k0 false) (S_q133 xr xr_1 xr_2 xr_3 (fun xr_22 xr_23 xr_24 nr_4 => (S_q142 xr xr_1 xr_2 xr_3 (fun xr_25 xr_26 xr_27 nr_5 => (S_q54 xr_22 xr_23 xr_24 nr_4 xr_25 xr_26 xr_27 nr_5 (fun cr_3 => (cond (!cr_3) (k0 false) (S_q114 xr_4 xr_5 xr_6 (fun xr_28 xr_29 xr_30 xr_31 nr_6 => (S_q134 xr_4 xr_5 xr_6 (fun xr_32 xr_33 xr_34 xr_35 nr_7 => (S_q47 xr_28 xr_29 xr_30 xr_31 nr_6 xr_32 xr_33 xr_34 xr_35 nr_7 (fun cr_4 => (cond (!cr_4) (k0 false) (S_q91 xr_4 xr_5 xr_6 xr_7 xr_8 xr_9 (fun xr_36 xr_37 xr_38 xr_39 nr_8 => (S_q105 xr_4 xr_5 xr_6 xr_7 xr_8 xr_9 (fun xr_40 xr_41 xr_42 xr_43 xr_44 nr_9 => (S_q47 xr_36 xr_37 xr_38 xr_39 nr_8 xr_40 xr_41 xr_42 xr_43 nr_9 (fun cr_5 => (k0 cr_5))))))))))))))))))))))))))))))) (k0 false))))))))))))))

def s_q62 (N_ : Nat) : TS_q62 := G_q62 N_ (s_q46 N_) (s_q50 N_) (s_q115 N_) (s_q157 N_) (s_q54 N_) (s_q51 N_) (s_q132 N_) (s_q141 N_) (s_q133 N_) (s_q142 N_) (s_q114 N_) (s_q134 N_) (s_q47 N_) (s_q91 N_) (s_q105 N_)

end Go.Proofs.YtccocdgimamdhaaGreatDoor
