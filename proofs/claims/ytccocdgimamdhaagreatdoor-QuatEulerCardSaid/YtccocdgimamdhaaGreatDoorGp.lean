/-
  THE PROGRAM's FUNCTIONS, as their meanings (written by program).
  Conditions: none.
-/
import Derived.Test.YtccocdgimamdhaaGreatDoorMachP
namespace Go.Proofs.YtccocdgimamdhaaGreatDoor
open Go Go.Mach
set_option linter.unusedVariables false

def strTab_11c1601c : List Int := [0, 1, 2, 2, 3, 3, 3, 3, 4, 4, 4, 4, 4, 4, 4, 4, 5, 5, 5, 5, 5, 5, 5, 5, 5, 5, 5, 5, 5, 5, 5, 5, 6, 6, 6, 6, 6, 6, 6, 6, 6, 6, 6, 6, 6, 6, 6, 6, 6, 6, 6, 6, 6, 6, 6, 6, 6, 6, 6, 6, 6, 6, 6, 6, 7, 7, 7, 7, 7, 7, 7, 7, 7, 7, 7, 7, 7, 7, 7, 7, 7, 7, 7, 7, 7, 7, 7, 7, 7, 7, 7, 7, 7, 7, 7, 7, 7, 7, 7, 7, 7, 7, 7, 7, 7, 7, 7, 7, 7, 7, 7, 7, 7, 7, 7, 7, 7, 7, 7, 7, 7, 7, 7, 7, 7, 7, 7, 7, 8, 8, 8, 8, 8, 8, 8, 8, 8, 8, 8, 8, 8, 8, 8, 8, 8, 8, 8, 8, 8, 8, 8, 8, 8, 8, 8, 8, 8, 8, 8, 8, 8, 8, 8, 8, 8, 8, 8, 8, 8, 8, 8, 8, 8, 8, 8, 8, 8, 8, 8, 8, 8, 8, 8, 8, 8, 8, 8, 8, 8, 8, 8, 8, 8, 8, 8, 8, 8, 8, 8, 8, 8, 8, 8, 8, 8, 8, 8, 8, 8, 8, 8, 8, 8, 8, 8, 8, 8, 8, 8, 8, 8, 8, 8, 8, 8, 8, 8, 8, 8, 8, 8, 8, 8, 8, 8, 8, 8, 8, 8, 8, 8, 8, 8, 8, 8, 8, 8, 8, 8, 8, 8, 8, 8, 8, 8, 8]

abbrev TS_q117 : Type := Nat -> (Int -> Bool) -> Bool

def s_q117 (N_ : Nat) : TS_q117 := fun n k => k n

abbrev TS_an_of : Type := (Int -> Int -> Int -> Bool) -> Bool

def G_an_of (N_ : Nat) (k0 : Int -> Int -> Int -> Bool) : Bool :=
  (k0 52 2047 1075)

def s_an_of (N_ : Nat) : TS_an_of := G_an_of N_

abbrev TS_q118 : Type := Int -> Int -> Int -> (Int -> Bool) -> Bool

def G_q118 (N_ : Nat) (f_0 : Int) (f_1 : Int) (f_2 : Int) (k0 : Int -> Bool) : Bool :=
  ((fits .i64 (f_1 + 1)) && ((decide (0 <= f_0)) && (k0 (IntKind.wrap .u64 ((IntKind.wrap .u64 (f_1 + 1)) * 2 ^ (min (Int.toNat f_0) 64))))))

def s_q118 (N_ : Nat) : TS_q118 := G_q118 N_

abbrev TS_q70 : Type := Int -> Int -> Int -> (Int -> Bool) -> Bool

def G_q70 (N_ : Nat) (f_0 : Int) (f_1 : Int) (f_2 : Int) (k0 : Int -> Bool) : Bool :=
  ((decide (0 <= f_0)) && (k0 (IntKind.wrap .u64 ((IntKind.wrap .u64 f_1) * 2 ^ (min (Int.toNat f_0) 64)))))

def s_q70 (N_ : Nat) : TS_q70 := G_q70 N_

abbrev TS_q69 : Type := Int -> Int -> Int -> Int -> (Bool -> Bool) -> Bool

def G_q69 (N_ : Nat) (S_q118 : TS_q118) (S_q70 : TS_q70) (b : Int) (f_0 : Int) (f_1 : Int) (f_2 : Int) (k0 : Bool -> Bool) : Bool :=
  (S_q118 f_0 f_1 f_2 (fun nr => (S_q70 f_0 f_1 f_2 (fun nr_1 => (k0 (decide ((bitsN .andNot .u64 b nr) > nr_1)))))))

def s_q69 (N_ : Nat) : TS_q69 := G_q69 N_ (s_q118 N_) (s_q70 N_)

abbrev TS_q63 : Type := Int -> Int -> Int -> (Int -> Bool) -> Bool

def G_q63 (N_ : Nat) (f_0 : Int) (f_1 : Int) (f_2 : Int) (k0 : Int -> Bool) : Bool :=
  ((decide (0 <= f_0)) && (k0 (IntKind.wrap .u64 ((1 : Int) * 2 ^ (min (Int.toNat f_0) 64)))))

def s_q63 (N_ : Nat) : TS_q63 := G_q63 N_

abbrev TS_q133 : Type := Int -> Int -> Int -> (Int -> Bool) -> Bool

def G_q133 (N_ : Nat) (S_q70 : TS_q70) (S_q63 : TS_q63) (f_0 : Int) (f_1 : Int) (f_2 : Int) (k0 : Int -> Bool) : Bool :=
  (S_q70 f_0 f_1 f_2 (fun nr => (S_q63 f_0 f_1 f_2 (fun nr_1 => (k0 (bitsN .or .u64 (bitsN .or .u64 nr (Int.fdiv nr_1 (2 ^ 1))) (IntKind.wrap .u64 (Int.tdiv f_0 52))))))))

def s_q133 (N_ : Nat) : TS_q133 := G_q133 N_ (s_q70 N_) (s_q63 N_)

abbrev TS_q60 : Type := Int -> Int -> Int -> Int -> (Int -> Bool) -> Bool

def G_q60 (N_ : Nat) (S_q69 : TS_q69) (S_q133 : TS_q133) (b : Int) (f_0 : Int) (f_1 : Int) (f_2 : Int) (k0 : Int -> Bool) : Bool :=
  (S_q69 b f_0 f_1 f_2 (fun cr => (cond cr (S_q133 f_0 f_1 f_2 (fun nr => (k0 nr))) (k0 b))))

def s_q60 (N_ : Nat) : TS_q60 := G_q60 N_ (s_q69 N_) (s_q133 N_)

abbrev TS_q22 : Type := Int -> Int -> Int -> Int -> (Bool -> Int -> Int -> Bool) -> Bool

def G_q22 (N_ : Nat) (S_q60 : TS_q60) (S_q118 : TS_q118) (S_q63 : TS_q63) (b : Int) (f_0 : Int) (f_1 : Int) (f_2 : Int) (k0 : Bool -> Int -> Int -> Bool) : Bool :=
  (S_q60 b f_0 f_1 f_2 (fun nr => (S_q118 f_0 f_1 f_2 (fun nr_1 => ((decide (0 <= f_0)) && ((fits .i64 (bitsN .and .u64 (Int.fdiv nr (2 ^ (min (Int.toNat f_0) 64))) (IntKind.wrap .u64 f_1))) && (S_q63 f_0 f_1 f_2 (fun nr_2 => (k0 ((bitsN .and .u64 nr nr_1) != 0) (bitsN .and .u64 (Int.fdiv nr (2 ^ (min (Int.toNat f_0) 64))) (IntKind.wrap .u64 f_1)) (bitsN .and .u64 nr (IntKind.wrap .u64 (nr_2 - 1))))))))))))

def s_q22 (N_ : Nat) : TS_q22 := G_q22 N_ (s_q60 N_) (s_q118 N_) (s_q63 N_)

abbrev TS_q21 : Type := Int -> Int -> Int -> Int -> (Int -> Bool) -> Bool

def G_q21 (N_ : Nat) (S_q22 : TS_q22) (b : Int) (f_0 : Int) (f_1 : Int) (f_2 : Int) (k0 : Int -> Bool) : Bool :=
  (S_q22 b f_0 f_1 f_2 (fun cr nr nr_1 => (cond ((nr == f_1) == true) (cond (nr_1 != 0) (k0 1) (cond (nr == f_1) (k0 2) (cond ((nr == 0) == true) (cond (nr_1 == 0) (k0 3) (cond (nr == 0) (k0 4) (k0 5))) (cond (nr == 0) (k0 4) (k0 5))))) (cond (nr == f_1) (k0 2) (cond ((nr == 0) == true) (cond (nr_1 == 0) (k0 3) (cond (nr == 0) (k0 4) (k0 5))) (cond (nr == 0) (k0 4) (k0 5)))))))

def s_q21 (N_ : Nat) : TS_q21 := G_q21 N_ (s_q22 N_)

abbrev TS_q124 : Type := Nat -> (Int -> Bool) -> Bool

def G_q124 (N_ : Nat) (S_q117 : TS_q117) (S_an_of : TS_an_of) (S_q21 : TS_q21) (x : Nat) (k0 : Int -> Bool) : Bool :=
  (S_q117 x (fun nr => (S_an_of (fun nr_1 nr_2 nr_3 => (S_q21 nr nr_1 nr_2 nr_3 (fun nr_4 => (k0 nr_4)))))))

def s_q124 (N_ : Nat) : TS_q124 := G_q124 N_ (s_q117 N_) (s_an_of N_) (s_q21 N_)

abbrev TS_q77 : Type := Int -> (Fl -> Bool) -> Bool

def s_q77 (N_ : Nat) : TS_q77 := fun n k => k (canon n.toNat)

abbrev TS_q139 : Type := Nat -> (Fl -> Bool) -> Bool

def G_q139 (N_ : Nat) (S_q117 : TS_q117) (S_q77 : TS_q77) (x : Nat) (k0 : Fl -> Bool) : Bool :=
  (S_q117 x (fun nr => (S_q77 (bitsN .andNot .u64 nr 9223372036854775808) (fun xr => (k0 xr)))))

def s_q139 (N_ : Nat) : TS_q139 := G_q139 N_ (s_q117 N_) (s_q77 N_)

abbrev TS_q40 : Type := List Fl -> (Bool -> Bool) -> Bool

def st_quat_finite_0 (N_ : Nat) (l_1 : List Fl) (t5 : Int) (e0 : Bool -> Bool) (e1 : Bool) : (Int) -> ((Int) -> Bool) -> Bool := fun v_ K => match v_ with
  | t6 => (cond (decide (t6 < t5)) ((inR t6 (List.length l_1)) && ((inR t6 (List.length l_1)) && (cond (!feq (fsub (List.getD l_1 (Int.toNat t6) none) (List.getD l_1 (Int.toNat t6) none)) (some 0)) (e0 false) ((fits .i64 (t6 + 1)) && (K (t6 + 1)))))) e1)

def G_q40 (N_ : Nat) (l : List Fl) (k0 : Bool -> Bool) : Bool :=
  (iterG N_ (st_quat_finite_0 N_ l (((List.length l) : Nat) : Int) (fun t2 => (k0 t2)) (k0 true)) 0)

def s_q40 (N_ : Nat) : TS_q40 := G_q40 N_

abbrev TS_q7 : Type := Fl -> Fl -> Fl -> Fl -> (Bool -> Bool) -> Bool

def G_q7 (N_ : Nat) (S_q40 : TS_q40) (qs_0 : Fl) (qs_1 : Fl) (qs_2 : Fl) (qs_3 : Fl) (k0 : Bool -> Bool) : Bool :=
  (S_q40 [qs_0, qs_1, qs_2, qs_3] (fun cr => (cond (!cr) (k0 false) (k0 true))))

def s_q7 (N_ : Nat) : TS_q7 := G_q7 (N_ + 24) (s_q40 N_)

abbrev TS_q46 : Type := Fl -> Fl -> Fl -> Fl -> (Bool) -> Bool

def G_q46 (N_ : Nat) (q_0 : Fl) (q_1 : Fl) (q_2 : Fl) (q_3 : Fl) (k0 : Bool) : Bool :=
  k0

def s_q46 (N_ : Nat) : TS_q46 := G_q46 N_

abbrev TS_m_Abs : Type := Fl -> (Fl -> Bool) -> Bool

def s_m_Abs (N_ : Nat) : TS_m_Abs := fun x k => k (absF x)

abbrev TS_q97 : Type := Fl -> Int -> (Bool -> Bool) -> Bool

def G_q97 (N_ : Nat) (S_m_Abs : TS_m_Abs) (f : Fl) (sign : Int) (k0 : Bool -> Bool) : Bool :=
  (cond (sign == 0) (S_m_Abs f (fun xr => (k0 (fgt xr (some 9218868437227405311))))) (cond (decide (sign < 0)) (k0 (fgt (fneg f) (some 9218868437227405311))) (k0 (fgt f (some 9218868437227405311)))))

def s_q97 (N_ : Nat) : TS_q97 := G_q97 N_ (s_m_Abs N_)

abbrev TS_q98 : Type := Fl -> (Bool -> Bool) -> Bool

def G_q98 (N_ : Nat) (f : Fl) (k0 : Bool -> Bool) : Bool :=
  (k0 (!feq f f))

def s_q98 (N_ : Nat) : TS_q98 := G_q98 N_

abbrev TS_q55 : Type := Fl -> (Fl -> Int -> Bool) -> Bool

def G_q55 (N_ : Nat) (S_m_Abs : TS_m_Abs) (x : Fl) (k0 : Fl -> Int -> Bool) : Bool :=
  (S_m_Abs x (fun xr => (cond (flt xr (some 4503599627370496)) (k0 (fmul x (some 4841369599423283200)) (-52)) (k0 x 0))))

def s_q55 (N_ : Nat) : TS_q55 := G_q55 N_ (s_m_Abs N_)

abbrev TS_q90 : Type := Fl -> (Int -> Bool) -> Bool

def s_q90 (N_ : Nat) : TS_q90 := fun x k => match x with | some b => k b | none => false

abbrev TS_q135 : Type := Fl -> (Fl -> Int -> Bool) -> Bool

def G_q135 (N_ : Nat) (S_q97 : TS_q97) (S_q98 : TS_q98) (S_q55 : TS_q55) (S_q90 : TS_q90) (S_q77 : TS_q77) (f : Fl) (k0 : Fl -> Int -> Bool) : Bool :=
  (cond (feq f (some 0)) (k0 f 0) (S_q97 f 0 (fun cr => (cond (cr == false) (S_q98 f (fun cr_1 => (cond cr_1 (k0 f 0) (S_q55 f (fun xr nr => (S_q90 xr (fun nr_1 => ((fits .i64 (bitsN .and .u64 (Int.fdiv nr_1 (2 ^ 52)) 2047)) && ((fits .i64 ((bitsN .and .u64 (Int.fdiv nr_1 (2 ^ 52)) 2047) - 1023)) && ((fits .i64 (((bitsN .and .u64 (Int.fdiv nr_1 (2 ^ 52)) 2047) - 1023) + 1)) && ((fits .i64 (nr + (((bitsN .and .u64 (Int.fdiv nr_1 (2 ^ 52)) 2047) - 1023) + 1))) && (S_q77 (bitsN .or .u64 (bitsN .andNot .u64 nr_1 9218868437227405312) 4602678819172646912) (fun xr_1 => (k0 xr_1 (nr + (((bitsN .and .u64 (Int.fdiv nr_1 (2 ^ 52)) 2047) - 1023) + 1)))))))))))))))) (k0 f 0)))))

def s_q135 (N_ : Nat) : TS_q135 := G_q135 N_ (s_q97 N_) (s_q98 N_) (s_q55 N_) (s_q90 N_) (s_q77 N_)

abbrev TS_q132 : Type := Fl -> (Fl -> Int -> Bool) -> Bool

def G_q132 (N_ : Nat) (S_q135 : TS_q135) (f : Fl) (k0 : Fl -> Int -> Bool) : Bool :=
  (S_q135 f (fun xr nr => (k0 xr nr)))

def s_q132 (N_ : Nat) : TS_q132 := G_q132 N_ (s_q135 N_)

abbrev TS_q75 : Type := Fl -> Fl -> (Fl -> Bool) -> Bool

def G_q75 (N_ : Nat) (S_q90 : TS_q90) (S_q77 : TS_q77) (f : Fl) (sign : Fl) (k0 : Fl -> Bool) : Bool :=
  (S_q90 f (fun nr => (S_q90 sign (fun nr_1 => (S_q77 (bitsN .or .u64 (bitsN .andNot .u64 nr 9223372036854775808) (bitsN .and .u64 nr_1 9223372036854775808)) (fun xr => (k0 xr)))))))

def s_q75 (N_ : Nat) : TS_q75 := G_q75 N_ (s_q90 N_) (s_q77 N_)

abbrev TS_m_Inf : Type := Int -> (Fl -> Bool) -> Bool

def J_m_Inf_0 (N_ : Nat) (S_q77 : TS_q77) (sign : Int) (v : Int) (k0 : Fl -> Bool) : Bool :=
  (S_q77 v (fun xr => (k0 xr)))

def G_m_Inf (N_ : Nat) (S_q77 : TS_q77) (sign : Int) (k0 : Fl -> Bool) : Bool :=
  (cond (decide (sign >= 0)) (J_m_Inf_0 N_ S_q77 sign 9218868437227405312 k0) (J_m_Inf_0 N_ S_q77 sign 18442240474082181120 k0))

def s_m_Inf (N_ : Nat) : TS_m_Inf := G_m_Inf N_ (s_q77 N_)

abbrev TS_q131 : Type := Fl -> Int -> (Fl -> Bool) -> Bool

def J_m_ldexp_0 (N_ : Nat) (S_q97 : TS_q97) (S_q98 : TS_q98) (S_q55 : TS_q55) (S_q90 : TS_q90) (S_q75 : TS_q75) (S_m_Inf : TS_m_Inf) (S_q77 : TS_q77) (frac : Fl) (exp : Int) (exp_1 : Int) (x : Int) (m : Fl) (k0 : Fl -> Bool) : Bool :=
  ((fits .i64 (exp_1 + 1023)) && (S_q77 (bitsN .or .u64 (bitsN .andNot .u64 x 9218868437227405312) (IntKind.wrap .u64 ((IntKind.wrap .u64 (exp_1 + 1023)) * 2 ^ 52))) (fun xr_4 => (k0 (fmul m xr_4)))))

def G_q131 (N_ : Nat) (S_q97 : TS_q97) (S_q98 : TS_q98) (S_q55 : TS_q55) (S_q90 : TS_q90) (S_q75 : TS_q75) (S_m_Inf : TS_m_Inf) (S_q77 : TS_q77) (frac : Fl) (exp : Int) (k0 : Fl -> Bool) : Bool :=
  (cond (feq frac (some 0)) (k0 frac) (S_q97 frac 0 (fun cr => (cond (cr == false) (S_q98 frac (fun cr_1 => (cond cr_1 (k0 frac) (S_q55 frac (fun xr nr => ((fits .i64 (exp + nr)) && (S_q90 xr (fun nr_1 => ((fits .i64 (Int.fdiv nr_1 (2 ^ 52))) && ((fits .i64 ((bitsN .and .i64 (Int.fdiv nr_1 (2 ^ 52)) 2047) - 1023)) && ((fits .i64 ((exp + nr) + ((bitsN .and .i64 (Int.fdiv nr_1 (2 ^ 52)) 2047) - 1023))) && (cond (decide (((exp + nr) + ((bitsN .and .i64 (Int.fdiv nr_1 (2 ^ 52)) 2047) - 1023)) < (-1075))) (S_q75 (some 0) xr (fun xr_1 => (k0 xr_1))) (cond (decide (((exp + nr) + ((bitsN .and .i64 (Int.fdiv nr_1 (2 ^ 52)) 2047) - 1023)) > 1023)) (cond (flt xr (some 0)) (S_m_Inf (-1) (fun xr_2 => (k0 xr_2))) (S_m_Inf 1 (fun xr_3 => (k0 xr_3)))) (cond (decide (((exp + nr) + ((bitsN .and .i64 (Int.fdiv nr_1 (2 ^ 52)) 2047) - 1023)) < (-1022))) ((fits .i64 (((exp + nr) + ((bitsN .and .i64 (Int.fdiv nr_1 (2 ^ 52)) 2047) - 1023)) + 53)) && (J_m_ldexp_0 N_ S_q97 S_q98 S_q55 S_q90 S_q75 S_m_Inf S_q77 frac exp (((exp + nr) + ((bitsN .and .i64 (Int.fdiv nr_1 (2 ^ 52)) 2047) - 1023)) + 53) nr_1 (some 4368491638549381120) k0)) (J_m_ldexp_0 N_ S_q97 S_q98 S_q55 S_q90 S_q75 S_m_Inf S_q77 frac exp ((exp + nr) + ((bitsN .and .i64 (Int.fdiv nr_1 (2 ^ 52)) 2047) - 1023)) nr_1 (some 4607182418800017408) k0))))))))))))))) (k0 frac)))))

def s_q131 (N_ : Nat) : TS_q131 := G_q131 N_ (s_q97 N_) (s_q98 N_) (s_q55 N_) (s_q90 N_) (s_q75 N_) (s_m_Inf N_) (s_q77 N_)

abbrev TS_q130 : Type := Fl -> Int -> (Fl -> Bool) -> Bool

def G_q130 (N_ : Nat) (S_q131 : TS_q131) (frac : Fl) (exp : Int) (k0 : Fl -> Bool) : Bool :=
  (S_q131 frac exp (fun xr => (k0 xr)))

def s_q130 (N_ : Nat) : TS_q130 := G_q130 N_ (s_q131 N_)

abbrev TS_q143 : Type := Fl -> (Fl -> Bool) -> Bool

def s_q143 (N_ : Nat) : TS_q143 := fun x k => k (fsqrt x)

abbrev TS_q137 : Type := Fl -> (Fl -> Bool) -> Bool

def G_q137 (N_ : Nat) (S_q143 : TS_q143) (x : Fl) (k0 : Fl -> Bool) : Bool :=
  (S_q143 x (fun xr => (k0 xr)))

def s_q137 (N_ : Nat) : TS_q137 := G_q137 N_ (s_q143 N_)

abbrev TS_q111 : Type := Fl -> Fl -> Fl -> Fl -> (Bool) -> Bool

def G_q111 (N_ : Nat) (l_0 : Fl) (l_1 : Fl) (l_2 : Fl) (l_3 : Fl) (k0 : Bool) : Bool :=
  k0

def s_q111 (N_ : Nat) : TS_q111 := G_q111 N_

abbrev TS_q110 : Type := Fl -> Fl -> Fl -> Fl -> (Fl -> Fl -> Fl -> Fl -> Int -> Bool) -> Bool

def G_q110 (N_ : Nat) (S_q7 : TS_q7) (S_q46 : TS_q46) (S_m_Abs : TS_m_Abs) (S_q132 : TS_q132) (S_q130 : TS_q130) (S_q137 : TS_q137) (S_q111 : TS_q111) (q_0 : Fl) (q_1 : Fl) (q_2 : Fl) (q_3 : Fl) (k0 : Fl -> Fl -> Fl -> Fl -> Int -> Bool) : Bool :=
  (S_q7 q_0 q_1 q_2 q_3 (fun cr => (cond (!cr) (k0 (some 0) (some 0) (some 0) (some 0) 4) (S_q46 q_0 q_1 q_2 q_3 (S_m_Abs q_0 (fun xr => (S_m_Abs q_1 (fun xr_1 => (S_m_Abs q_2 (fun xr_2 => (S_m_Abs q_3 (fun xr_3 => (cond (feq (fmm true (fmm true (fmm true (fmm true (some 0) xr) xr_1) xr_2) xr_3) (some 0)) (k0 (some 0) (some 0) (some 0) (some 0) 120) (S_q132 (fmm true (fmm true (fmm true (fmm true (some 0) xr) xr_1) xr_2) xr_3) (fun xr_4 nr => ((fits .i64 (1 - nr)) && (S_q130 q_0 (1 - nr) (fun xr_5 => ((fits .i64 (1 - nr)) && (S_q130 q_1 (1 - nr) (fun xr_6 => ((fits .i64 (1 - nr)) && (S_q130 q_2 (1 - nr) (fun xr_7 => ((fits .i64 (1 - nr)) && (S_q130 q_3 (1 - nr) (fun xr_8 => (S_q137 (fadd (fadd (fadd (fadd (some 0) (fmul xr_5 xr_5)) (fmul xr_6 xr_6)) (fmul xr_7 xr_7)) (fmul xr_8 xr_8)) (fun xr_9 => (S_q111 (fdiv xr_5 xr_9) (fdiv xr_6 xr_9) (fdiv xr_7 xr_9) (fdiv xr_8 xr_9) (k0 (fdiv xr_5 xr_9) (fdiv xr_6 xr_9) (fdiv xr_7 xr_9) (fdiv xr_8 xr_9) 0)))))))))))))))))))))))))))))))

def s_q110 (N_ : Nat) : TS_q110 := G_q110 (N_ + 24) (s_q7 N_) (s_q46 N_) (s_m_Abs N_) (s_q132 N_) (s_q130 N_) (s_q137 N_) (s_q111 N_)

abbrev TS_q96 : Type := Fl -> Fl -> Fl -> Fl -> Fl -> Fl -> (Fl -> Fl -> Fl -> Bool) -> Bool

def G_q96 (N_ : Nat) (a_0 : Fl) (a_1 : Fl) (a_2 : Fl) (b_0 : Fl) (b_1 : Fl) (b_2 : Fl) (k0 : Fl -> Fl -> Fl -> Bool) : Bool :=
  (k0 (fsub (fmul a_1 b_2) (fmul a_2 b_1)) (fsub (fmul a_2 b_0) (fmul a_0 b_2)) (fsub (fmul a_0 b_1) (fmul a_1 b_0)))

def s_q96 (N_ : Nat) : TS_q96 := G_q96 N_

abbrev TS_q126 : Type := Fl -> Fl -> Fl -> (Fl -> Fl -> Fl -> Int -> Bool) -> Bool

def G_q126 (N_ : Nat) (S_q40 : TS_q40) (v_0 : Fl) (v_1 : Fl) (v_2 : Fl) (k0 : Fl -> Fl -> Fl -> Int -> Bool) : Bool :=
  (S_q40 [v_0, v_1, v_2] (fun cr => (cond (!cr) (k0 (some 0) (some 0) (some 0) 5) (k0 v_0 v_1 v_2 0))))

def s_q126 (N_ : Nat) : TS_q126 := G_q126 N_ (s_q40 N_)

abbrev TS_q114 : Type := Fl -> Fl -> Fl -> Fl -> Fl -> Fl -> Fl -> (Fl -> Fl -> Fl -> Int -> Bool) -> Bool

def G_q114 (N_ : Nat) (S_q7 : TS_q7) (S_q40 : TS_q40) (S_q96 : TS_q96) (S_q126 : TS_q126) (q_0 : Fl) (q_1 : Fl) (q_2 : Fl) (q_3 : Fl) (v_0 : Fl) (v_1 : Fl) (v_2 : Fl) (k0 : Fl -> Fl -> Fl -> Int -> Bool) : Bool :=
  (S_q7 q_0 q_1 q_2 q_3 (fun cr => (cond ((!cr) == false) (S_q40 [v_0, v_1, v_2] (fun cr_1 => (cond (!cr_1) (k0 (some 0) (some 0) (some 0) 4) (S_q96 q_1 q_2 q_3 v_0 v_1 v_2 (fun xr xr_1 xr_2 => (S_q96 q_1 q_2 q_3 (fmul xr (some 4611686018427387904)) (fmul xr_1 (some 4611686018427387904)) (fmul xr_2 (some 4611686018427387904)) (fun xr_3 xr_4 xr_5 => (S_q126 (fadd (fadd v_0 (fmul q_0 (fmul xr (some 4611686018427387904)))) xr_3) (fadd (fadd v_1 (fmul q_0 (fmul xr_1 (some 4611686018427387904)))) xr_4) (fadd (fadd v_2 (fmul q_0 (fmul xr_2 (some 4611686018427387904)))) xr_5) (fun xr_6 xr_7 xr_8 nr => (k0 xr_6 xr_7 xr_8 nr)))))))))) (k0 (some 0) (some 0) (some 0) 4))))

def s_q114 (N_ : Nat) : TS_q114 := G_q114 (N_ + 24) (s_q7 N_) (s_q40 N_) (s_q96 N_) (s_q126 N_)

abbrev TS_q76 : Type := Fl -> Fl -> Fl -> Fl -> Fl -> Fl -> Fl -> Fl -> (Bool -> Bool) -> Bool

def G_q76 (N_ : Nat) (S_q40 : TS_q40) (qs_0 : Fl) (qs_1 : Fl) (qs_2 : Fl) (qs_3 : Fl) (qs_4 : Fl) (qs_5 : Fl) (qs_6 : Fl) (qs_7 : Fl) (k0 : Bool -> Bool) : Bool :=
  (S_q40 [qs_0, qs_1, qs_2, qs_3] (fun cr => (cond (!cr) (k0 false) (S_q40 [qs_4, qs_5, qs_6, qs_7] (fun cr_1 => (cond (!cr_1) (k0 false) (k0 true)))))))

def s_q76 (N_ : Nat) : TS_q76 := G_q76 (N_ + 24) (s_q40 N_)

abbrev TS_q125 : Type := Fl -> Fl -> Fl -> Fl -> Fl -> Fl -> Fl -> Fl -> (Fl -> Fl -> Fl -> Fl -> Bool) -> Bool

def G_q125 (N_ : Nat) (a_0 : Fl) (a_1 : Fl) (a_2 : Fl) (a_3 : Fl) (b_0 : Fl) (b_1 : Fl) (b_2 : Fl) (b_3 : Fl) (k0 : Fl -> Fl -> Fl -> Fl -> Bool) : Bool :=
  (k0 (fsub (fsub (fsub (fmul a_0 b_0) (fmul a_1 b_1)) (fmul a_2 b_2)) (fmul a_3 b_3)) (fsub (fadd (fadd (fmul a_0 b_1) (fmul a_1 b_0)) (fmul a_2 b_3)) (fmul a_3 b_2)) (fadd (fadd (fsub (fmul a_0 b_2) (fmul a_1 b_3)) (fmul a_2 b_0)) (fmul a_3 b_1)) (fadd (fsub (fadd (fmul a_0 b_3) (fmul a_1 b_2)) (fmul a_2 b_1)) (fmul a_3 b_0)))

def s_q125 (N_ : Nat) : TS_q125 := G_q125 N_

abbrev TS_q112 : Type := Fl -> Fl -> Fl -> Fl -> (Fl -> Fl -> Fl -> Fl -> Int -> Bool) -> Bool

def G_q112 (N_ : Nat) (S_q7 : TS_q7) (q_0 : Fl) (q_1 : Fl) (q_2 : Fl) (q_3 : Fl) (k0 : Fl -> Fl -> Fl -> Fl -> Int -> Bool) : Bool :=
  (S_q7 q_0 q_1 q_2 q_3 (fun cr => (cond (!cr) (k0 (some 0) (some 0) (some 0) (some 0) 5) (k0 q_0 q_1 q_2 q_3 0))))

def s_q112 (N_ : Nat) : TS_q112 := G_q112 N_ (s_q7 N_)

abbrev TS_q88 : Type := Fl -> Fl -> Fl -> Fl -> Fl -> Fl -> Fl -> Fl -> (Fl -> Fl -> Fl -> Fl -> Int -> Bool) -> Bool

def G_q88 (N_ : Nat) (S_q76 : TS_q76) (S_q125 : TS_q125) (S_q112 : TS_q112) (a_0 : Fl) (a_1 : Fl) (a_2 : Fl) (a_3 : Fl) (b_0 : Fl) (b_1 : Fl) (b_2 : Fl) (b_3 : Fl) (k0 : Fl -> Fl -> Fl -> Fl -> Int -> Bool) : Bool :=
  (S_q76 a_0 a_1 a_2 a_3 b_0 b_1 b_2 b_3 (fun cr => (cond (!cr) (k0 (some 0) (some 0) (some 0) (some 0) 4) (S_q125 a_0 a_1 a_2 a_3 b_0 b_1 b_2 b_3 (fun xr xr_1 xr_2 xr_3 => (S_q112 xr xr_1 xr_2 xr_3 (fun xr_4 xr_5 xr_6 xr_7 nr => (k0 xr_4 xr_5 xr_6 xr_7 nr))))))))

def s_q88 (N_ : Nat) : TS_q88 := G_q88 N_ (s_q76 N_) (s_q125 N_) (s_q112 N_)

abbrev TS_q107 : Type := Fl -> (Int -> Bool) -> Bool

def s_q107 (N_ : Nat) : TS_q107 := fun x k => k (clsF x)

abbrev TS_q78 : Type := List Fl -> (Bool -> Bool) -> Bool

def st_an_Finite_0 (N_ : Nat) (S_q107 : TS_q107) (t6 : List Fl) (t7 : Int) (e0 : Bool -> Bool) (e1 : Bool) : (Int) -> ((Int) -> Bool) -> Bool := fun v_ K => match v_ with
  | t8 => (cond (decide (t8 < t7)) ((inR t8 (List.length t6)) && (S_q107 (List.getD t6 (Int.toNat t8) none) (fun nr => (cond ((nr == 1) == false) (cond (nr == 2) (e0 false) ((fits .i64 (t8 + 1)) && (K (t8 + 1)))) (e0 false))))) e1)

def G_q78 (N_ : Nat) (S_q107 : TS_q107) (l : List Fl) (k0 : Bool -> Bool) : Bool :=
  (iterG N_ (st_an_Finite_0 N_ S_q107 l (((List.length l) : Nat) : Int) (fun t2 => (k0 t2)) (k0 true)) 0)

def s_q78 (N_ : Nat) : TS_q78 := G_q78 N_ (s_q107 N_)

abbrev TS_q4 : Type := Int -> (Int -> Bool) -> Bool

def G_q4 (N_ : Nat) (x : Int) (k0 : Int -> Bool) : Bool :=
  (cond (x == 0) (k0 64) ((inR (Int.fdiv (IntKind.wrap .u64 ((bitsN .and .u64 x (IntKind.wrap .u64 (0 - x))) * 285870213051353865)) (2 ^ 58)) 64) && ((fits .i64 (List.getD tab64 (Int.toNat (Int.fdiv (IntKind.wrap .u64 ((bitsN .and .u64 x (IntKind.wrap .u64 (0 - x))) * 285870213051353865)) (2 ^ 58))) 0)) && (k0 (List.getD tab64 (Int.toNat (Int.fdiv (IntKind.wrap .u64 ((bitsN .and .u64 x (IntKind.wrap .u64 (0 - x))) * 285870213051353865)) (2 ^ 58))) 0)))))

def s_q4 (N_ : Nat) : TS_q4 := G_q4 N_

abbrev TS_q57 : Type := Int -> Int -> Int -> Int -> (Bool -> Int -> Int -> Int -> Bool) -> Bool

def J_q141 (N_ : Nat) (S_q22 : TS_q22) (S_q21 : TS_q21) (S_q63 : TS_q63) (S_q4 : TS_q4) (b : Int) (f_0 : Int) (f_1 : Int) (f_2 : Int) (p : Bool) (p_1 : Int) (p_2 : Int) (k0 : Bool -> Int -> Int -> Int -> Bool) : Bool :=
  (S_q4 p_1 (fun nr_4 => ((decide (0 <= nr_4)) && ((fits .i64 (p_2 + nr_4)) && (k0 p (Int.fdiv p_1 (2 ^ (min (Int.toNat nr_4) 64))) (p_2 + nr_4) 0)))))

def G_q57 (N_ : Nat) (S_q22 : TS_q22) (S_q21 : TS_q21) (S_q63 : TS_q63) (S_q4 : TS_q4) (b : Int) (f_0 : Int) (f_1 : Int) (f_2 : Int) (k0 : Bool -> Int -> Int -> Int -> Bool) : Bool :=
  (S_q22 b f_0 f_1 f_2 (fun cr nr nr_1 => ((fits .i64 (nr - f_2)) && (S_q21 b f_0 f_1 f_2 (fun nr_2 => (cond (nr_2 == 1) (k0 false 0 0 4) (cond (nr_2 == 2) (k0 false 0 0 4) (cond (nr_2 == 3) (k0 cr 0 0 0) (cond (nr_2 == 4) ((fits .i64 ((nr - f_2) + 1)) && (J_q141 N_ S_q22 S_q21 S_q63 S_q4 b f_0 f_1 f_2 cr nr_1 ((nr - f_2) + 1) k0)) (S_q63 f_0 f_1 f_2 (fun nr_3 => (J_q141 N_ S_q22 S_q21 S_q63 S_q4 b f_0 f_1 f_2 cr (bitsN .or .u64 nr_1 nr_3) (nr - f_2) k0))))))))))))

def s_q57 (N_ : Nat) : TS_q57 := G_q57 N_ (s_q22 N_) (s_q21 N_) (s_q63 N_) (s_q4 N_)

abbrev TS_q127 : Type := Fl -> (Bool -> Int -> Int -> Int -> Bool) -> Bool

def G_q127 (N_ : Nat) (S_q90 : TS_q90) (S_an_of : TS_an_of) (S_q57 : TS_q57) (x : Fl) (k0 : Bool -> Int -> Int -> Int -> Bool) : Bool :=
  (S_q90 x (fun nr => (S_an_of (fun nr_1 nr_2 nr_3 => (S_q57 nr nr_1 nr_2 nr_3 (fun cr nr_4 nr_5 nr_6 => (k0 cr nr_4 nr_5 nr_6)))))))

def s_q127 (N_ : Nat) : TS_q127 := G_q127 N_ (s_q90 N_) (s_an_of N_) (s_q57 N_)

abbrev TS_q1 : Type := List Int -> (Nat -> Nat -> Bool) -> Bool

def st_big_norm_w_0 (N_ : Nat) (x : List Int) (e0 : Int -> Bool) : (Int) -> ((Int) -> Bool) -> Bool := fun v_ K => match v_ with
  | n => (cond ((decide (n > 0)) == true) ((fits .i64 (n - 1)) && ((inR (n - 1) (List.length x)) && ((decide ((Int.toNat (n - 1)) < (List.length x))) && (cond ((List.getD x (Int.toNat (n - 1)) 0) == 0) ((fits .i64 (n - 1)) && (K (n - 1))) (e0 n))))) (e0 n))

def G_q1 (N_ : Nat) (b : List Int) (k0 : Nat -> Nat -> Bool) : Bool :=
  (iterG N_ (st_big_norm_w_0 N_ b (fun n_1 => ((decide (0 <= n_1 /\ n_1 <= (((List.length b) : Nat) : Int))) && (k0 0 ((Int.toNat n_1) - 0))))) (((List.length b) : Nat) : Int))

def s_q1 (N_ : Nat) : TS_q1 := G_q1 N_

abbrev TS_q100 : Type := Int -> (List Int -> Bool) -> Bool

def G_q100 (N_ : Nat) (S_q1 : TS_q1) (n : Int) (k0 : List Int -> Bool) : Bool :=
  (S_q1 [n] (fun mr mr_1 => ((decide ((mr + mr_1) <= (List.length [n]))) && (k0 (List.take mr_1 (List.drop mr [n]))))))

def s_q100 (N_ : Nat) : TS_q100 := G_q100 N_ (s_q1 N_)

abbrev TS_q0 : Type := Bool -> List Int -> Bool -> (Bool -> Bool) -> Bool

def G_q0 (N_ : Nat) (neg : Bool) (abs : List Int) (b : Bool) (k0 : Bool -> Bool) : Bool :=
  (cond (neg == true) (k0 (decide ((((List.length abs) : Nat) : Int) > 0))) (k0 false))

def s_q0 (N_ : Nat) : TS_q0 := G_q0 N_

abbrev TS_q44 : Type := Int -> Bool -> (Bool -> List Int -> Bool) -> Bool

def G_q44 (N_ : Nat) (S_q100 : TS_q100) (S_q0 : TS_q0) (n : Int) (b : Bool) (k0 : Bool -> List Int -> Bool) : Bool :=
  (S_q100 n (fun nsr => (S_q0 false nsr b (fun cr => (k0 cr nsr)))))

def s_q44 (N_ : Nat) : TS_q44 := G_q44 N_ (s_q100 N_) (s_q0 N_)

abbrev TS_q65 : Type := List Int -> (List Int -> Bool) -> Bool

def G_q65 (N_ : Nat) (x : List Int) (k0 : List Int -> Bool) : Bool :=
  ((decide ((List.length ([] ++ x)) * 8 <= 140737488355328)) && (k0 ([] ++ x)))

def s_q65 (N_ : Nat) : TS_q65 := G_q65 N_

abbrev TS_q25 : Type := Bool -> List Int -> Bool -> List Int -> (Bool -> Bool) -> Bool

def G_q25 (N_ : Nat) (neg : Bool) (abs : List Int) (b : Bool) (b_1 : List Int) (k0 : Bool -> Bool) : Bool :=
  (cond (neg == true) (k0 (decide ((((List.length abs) : Nat) : Int) > 0))) (k0 false))

def s_q25 (N_ : Nat) : TS_q25 := G_q25 N_

abbrev TS_q18 : Type := Bool -> List Int -> (Bool -> List Int -> Bool) -> Bool

def G_q18 (N_ : Nat) (S_q65 : TS_q65) (S_q25 : TS_q25) (b : Bool) (b_1 : List Int) (k0 : Bool -> List Int -> Bool) : Bool :=
  (S_q65 b_1 (fun nsr => (S_q25 (!b) nsr b b_1 (fun cr => (k0 cr nsr)))))

def s_q18 (N_ : Nat) : TS_q18 := G_q18 N_ (s_q65 N_) (s_q25 N_)

abbrev TS_q116 : Type := Fl -> (Int -> Bool -> List Int -> Bool) -> Bool

def G_q116 (N_ : Nat) (S_q127 : TS_q127) (S_q44 : TS_q44) (S_q18 : TS_q18) (x : Fl) (k0 : Int -> Bool -> List Int -> Bool) : Bool :=
  (S_q127 x (fun cr nr nr_1 nr_2 => (S_q44 nr false (fun cr_1 nsr => (cond cr (S_q18 cr_1 nsr (fun cr_2 nsr_1 => (k0 nr_1 cr_2 nsr_1))) (k0 nr_1 cr_1 nsr))))))

def s_q116 (N_ : Nat) : TS_q116 := G_q116 N_ (s_q127 N_) (s_q44 N_) (s_q18 N_)

abbrev TS_q85 : Type := Int -> Int -> (Int -> Int -> Bool) -> Bool

def G_q85 (N_ : Nat) (x : Int) (y : Int) (k0 : Int -> Int -> Bool) : Bool :=
  (k0 (IntKind.wrap .u64 ((IntKind.wrap .u64 ((IntKind.wrap .u64 ((Int.fdiv x (2 ^ 32)) * (Int.fdiv y (2 ^ 32)))) + (Int.fdiv (IntKind.wrap .u64 ((IntKind.wrap .u64 ((Int.fdiv x (2 ^ 32)) * (bitsN .and .u64 y 4294967295))) + (Int.fdiv (IntKind.wrap .u64 ((bitsN .and .u64 x 4294967295) * (bitsN .and .u64 y 4294967295))) (2 ^ 32)))) (2 ^ 32)))) + (Int.fdiv (IntKind.wrap .u64 ((bitsN .and .u64 (IntKind.wrap .u64 ((IntKind.wrap .u64 ((Int.fdiv x (2 ^ 32)) * (bitsN .and .u64 y 4294967295))) + (Int.fdiv (IntKind.wrap .u64 ((bitsN .and .u64 x 4294967295) * (bitsN .and .u64 y 4294967295))) (2 ^ 32)))) 4294967295) + (IntKind.wrap .u64 ((bitsN .and .u64 x 4294967295) * (Int.fdiv y (2 ^ 32)))))) (2 ^ 32)))) (IntKind.wrap .u64 (x * y)))

def s_q85 (N_ : Nat) : TS_q85 := G_q85 N_

abbrev TS_q56 : Type := Int -> Int -> Int -> (Int -> Int -> Bool) -> Bool

def s_q56 (N_ : Nat) : TS_q56 := fun x y c k => (decide (c.toNat <= 1)) && k (((x.toNat + y.toNat + c.toNat) % 18446744073709551616 : Nat) : Int) (((x.toNat + y.toNat + c.toNat) / 18446744073709551616 : Nat) : Int)

abbrev TS_q79 : Type := Int -> Int -> Int -> Int -> (Int -> Int -> Bool) -> Bool

def G_q79 (N_ : Nat) (S_q85 : TS_q85) (S_q56 : TS_q56) (a : Int) (b : Int) (c : Int) (d : Int) (k0 : Int -> Int -> Bool) : Bool :=
  (S_q85 a b (fun nr nr_1 => (S_q56 nr_1 c 0 (fun nr_2 nr_3 => (S_q56 nr_2 d 0 (fun nr_4 nr_5 => (k0 (IntKind.wrap .u64 ((IntKind.wrap .u64 (nr + nr_3)) + nr_5)) nr_4)))))))

def s_q79 (N_ : Nat) : TS_q79 := G_q79 N_ (s_q85 N_) (s_q56 N_)

abbrev TS_q105 : Type := List Int -> List Int -> (List Int -> Bool) -> Bool

def st_big_times_2 (N_ : Nat) (S_q79 : TS_q79) (S_q1 : TS_q1) (y_2 : List Int) (i : Int) (a : Int) (t25_1 : List Int) (t26_1 : Int) (t27_1 : Int) (t32 : List Int) (t33 : Int) (e0 : Int -> List Int -> Bool) : (Int × Int × List Int) -> ((Int × Int × List Int) -> Bool) -> Bool := fun v_ K => match v_ with
  | (carry, t34, z_1) => (cond (decide (t34 < t33)) ((inR t34 (List.length t32)) && ((fits .i64 (i + t34)) && ((fits .i64 (i + t34)) && ((inR (i + t34) (List.length z_1)) && ((decide ((Int.toNat (i + t34)) < (List.length z_1))) && (S_q79 a (List.getD t32 (Int.toNat t34) 0) (List.getD z_1 (Int.toNat (i + t34)) 0) carry (fun nr nr_1 => ((inR (i + t34) (List.length z_1)) && ((decide ((Int.toNat (i + t34)) < (List.length z_1))) && ((fits .i64 (t34 + 1)) && (K (nr, (t34 + 1), (List.set z_1 (Int.toNat (i + t34)) nr_1))))))))))))) (e0 carry z_1))

def st_big_times_0 (N_ : Nat) (S_q79 : TS_q79) (S_q1 : TS_q1) (y_1 : List Int) (t25 : List Int) (t26 : Int) (e0 : List Int -> Bool) : (Int × List Int) -> ((Int × List Int) -> Bool) -> Bool := fun v_ K => match v_ with
  | (t27, z) => (cond (decide (t27 < t26)) ((inR t27 (List.length t25)) && (iterG N_ (st_big_times_2 N_ S_q79 S_q1 y_1 t27 (List.getD t25 (Int.toNat t27) 0) t25 t26 t27 y_1 (((List.length y_1) : Nat) : Int) (fun carry_1 z_2 => ((fits .i64 (t27 + (((List.length y_1) : Nat) : Int))) && ((inR (t27 + (((List.length y_1) : Nat) : Int)) (List.length z_2)) && ((decide ((Int.toNat (t27 + (((List.length y_1) : Nat) : Int))) < (List.length z_2))) && ((fits .i64 (t27 + 1)) && (K ((t27 + 1), (List.set z_2 (Int.toNat (t27 + (((List.length y_1) : Nat) : Int))) carry_1))))))))) (0, 0, z))) (e0 z))

def G_q105 (N_ : Nat) (S_q79 : TS_q79) (S_q1 : TS_q1) (x : List Int) (y : List Int) (k0 : List Int -> Bool) : Bool :=
  (cond (((((List.length x) : Nat) : Int) == 0) == false) (cond ((((List.length y) : Nat) : Int) == 0) (k0 []) ((fits .i64 ((((List.length x) : Nat) : Int) + (((List.length y) : Nat) : Int))) && ((mkOk 8 ((((List.length x) : Nat) : Int) + (((List.length y) : Nat) : Int)) ((((List.length x) : Nat) : Int) + (((List.length y) : Nat) : Int))) && (iterG N_ (st_big_times_0 N_ S_q79 S_q1 y x (((List.length x) : Nat) : Int) (fun z_3 => (S_q1 z_3 (fun mr mr_1 => ((decide ((mr + mr_1) <= (List.length z_3))) && (k0 (List.take mr_1 (List.drop mr z_3)))))))) (0, (List.replicate (Int.toNat ((((List.length x) : Nat) : Int) + (((List.length y) : Nat) : Int))) (0 : Int))))))) (k0 []))

def s_q105 (N_ : Nat) : TS_q105 := G_q105 N_ (s_q79 N_) (s_q1 N_)

abbrev TS_q43 : Type := Bool -> Bool -> List Int -> Bool -> List Int -> (Bool -> List Int -> Bool) -> Bool

def G_q43 (N_ : Nat) (S_q105 : TS_q105) (S_q0 : TS_q0) (b : Bool) (b_1 : Bool) (b_2 : List Int) (b_3 : Bool) (b_4 : List Int) (k0 : Bool -> List Int -> Bool) : Bool :=
  (S_q105 b_2 b_4 (fun nsr => (S_q0 (b_1 != b_3) nsr b (fun cr => (k0 cr nsr)))))

def s_q43 (N_ : Nat) : TS_q43 := G_q43 N_ (s_q105 N_) (s_q0 N_)

abbrev TS_q14 : Type := Int -> Int -> Bool -> List Int -> Bool -> List Int -> (Int -> Bool -> List Int -> Bool) -> Bool

def G_q14 (N_ : Nat) (S_q43 : TS_q43) (x : Int) (y : Int) (b : Bool) (b_1 : List Int) (b_2 : Bool) (b_3 : List Int) (k0 : Int -> Bool -> List Int -> Bool) : Bool :=
  (S_q43 false b b_1 b_2 b_3 (fun cr nsr => ((fits .i64 (x + y)) && (k0 (x + y) cr nsr))))

def s_q14 (N_ : Nat) : TS_q14 := G_q14 N_ (s_q43 N_)

abbrev TS_q64 : Type := Bool -> (Int -> List Int -> Bool) -> Bool

def G_q64 (N_ : Nat) (b : Bool) (k0 : Int -> List Int -> Bool) : Bool :=
  (cond b (k0 (-1) []) (k0 0 []))

def s_q64 (N_ : Nat) : TS_q64 := G_q64 N_

abbrev TS_q3 : Type := Bool -> List Int -> (Int -> Bool) -> Bool

def G_q3 (N_ : Nat) (b : Bool) (b_1 : List Int) (k0 : Int -> Bool) : Bool :=
  (cond b (k0 (-1)) (cond ((((List.length b_1) : Nat) : Int) == 0) (k0 0) (k0 1)))

def s_q3 (N_ : Nat) : TS_q3 := G_q3 N_

abbrev TS_q80 : Type := List Int -> Int -> (List Int -> Bool) -> Bool

def st_big_left_0 (N_ : Nat) (S_q1 : TS_q1) (words : Int) (rest : Int) (t24 : List Int) (t25 : Int) (e0 : List Int -> Bool) : (Int × List Int) -> ((Int × List Int) -> Bool) -> Bool := fun v_ K => match v_ with
  | (t26, z) => (cond (decide (t26 < t25)) ((inR t26 (List.length t24)) && ((fits .i64 (words + t26)) && ((inR (words + t26) (List.length z)) && ((decide ((Int.toNat (words + t26)) < (List.length z))) && ((decide (0 <= rest)) && ((inR (words + t26) (List.length z)) && ((decide ((Int.toNat (words + t26)) < (List.length z))) && ((fits .i64 (words + t26)) && ((fits .i64 ((words + t26) + 1)) && ((decide (0 <= (IntKind.wrap .u64 (64 - rest)))) && ((inR ((words + t26) + 1) (List.length (List.set z (Int.toNat (words + t26)) (bitsN .or .u64 (List.getD z (Int.toNat (words + t26)) 0) (IntKind.wrap .u64 ((List.getD t24 (Int.toNat t26) 0) * 2 ^ (min (Int.toNat rest) 64))))))) && ((decide ((Int.toNat ((words + t26) + 1)) < (List.length (List.set z (Int.toNat (words + t26)) (bitsN .or .u64 (List.getD z (Int.toNat (words + t26)) 0) (IntKind.wrap .u64 ((List.getD t24 (Int.toNat t26) 0) * 2 ^ (min (Int.toNat rest) 64)))))))) && ((fits .i64 (t26 + 1)) && (K ((t26 + 1), (List.set (List.set z (Int.toNat (words + t26)) (bitsN .or .u64 (List.getD z (Int.toNat (words + t26)) 0) (IntKind.wrap .u64 ((List.getD t24 (Int.toNat t26) 0) * 2 ^ (min (Int.toNat rest) 64))))) (Int.toNat ((words + t26) + 1)) (Int.fdiv (List.getD t24 (Int.toNat t26) 0) (2 ^ (min (Int.toNat (IntKind.wrap .u64 (64 - rest))) 64))))))))))))))))))) (e0 z))

def G_q80 (N_ : Nat) (S_q1 : TS_q1) (x : List Int) (n : Int) (k0 : List Int -> Bool) : Bool :=
  (cond ((((List.length x) : Nat) : Int) == 0) (k0 []) ((fits .i64 (IntKind.wrap .u64 (Int.tdiv n 64))) && ((fits .i64 ((IntKind.wrap .u64 (Int.tdiv n 64)) + (((List.length x) : Nat) : Int))) && ((fits .i64 (((IntKind.wrap .u64 (Int.tdiv n 64)) + (((List.length x) : Nat) : Int)) + 1)) && ((mkOk 8 (((IntKind.wrap .u64 (Int.tdiv n 64)) + (((List.length x) : Nat) : Int)) + 1) (((IntKind.wrap .u64 (Int.tdiv n 64)) + (((List.length x) : Nat) : Int)) + 1)) && (iterG N_ (st_big_left_0 N_ S_q1 (IntKind.wrap .u64 (Int.tdiv n 64)) (Int.tmod n 64) x (((List.length x) : Nat) : Int) (fun z_1 => (S_q1 z_1 (fun mr mr_1 => ((decide ((mr + mr_1) <= (List.length z_1))) && (k0 (List.take mr_1 (List.drop mr z_1)))))))) (0, (List.replicate (Int.toNat (((IntKind.wrap .u64 (Int.tdiv n 64)) + (((List.length x) : Nat) : Int)) + 1)) (0 : Int)))))))))

def s_q80 (N_ : Nat) : TS_q80 := G_q80 N_ (s_q1 N_)

abbrev TS_q54 : Type := Int -> Bool -> Bool -> List Int -> (Bool -> List Int -> Bool) -> Bool

def G_q54 (N_ : Nat) (S_q80 : TS_q80) (S_q0 : TS_q0) (n : Int) (b : Bool) (b_1 : Bool) (b_2 : List Int) (k0 : Bool -> List Int -> Bool) : Bool :=
  (S_q80 b_2 n (fun nsr => (S_q0 b_1 nsr b (fun cr => (k0 cr nsr)))))

def s_q54 (N_ : Nat) : TS_q54 := G_q54 N_ (s_q80 N_) (s_q0 N_)

abbrev TS_q26 : Type := Int -> Int -> Bool -> List Int -> (Bool -> List Int -> Bool) -> Bool

def G_q26 (N_ : Nat) (S_q54 : TS_q54) (x : Int) (e : Int) (b : Bool) (b_1 : List Int) (k0 : Bool -> List Int -> Bool) : Bool :=
  ((fits .i64 (x - e)) && (S_q54 (IntKind.wrap .u64 (x - e)) false b b_1 (fun cr nsr => (k0 cr nsr))))

def s_q26 (N_ : Nat) : TS_q26 := G_q26 N_ (s_q54 N_)

abbrev TS_q12 : Type := List Int -> Int -> (Int -> Bool) -> Bool

def G_q12 (N_ : Nat) (x : List Int) (i : Int) (k0 : Int -> Bool) : Bool :=
  (cond (decide (i < (((List.length x) : Nat) : Int))) ((inR i (List.length x)) && (k0 (List.getD x (Int.toNat i) 0))) (k0 0))

def s_q12 (N_ : Nat) : TS_q12 := G_q12 N_

abbrev TS_q115 : Type := List Int -> List Int -> (List Int -> Bool) -> Bool

def st_big_sum_0 (N_ : Nat) (S_q12 : TS_q12) (S_q56 : TS_q56) (S_q1 : TS_q1) (x_1 : List Int) (y_1 : List Int) (n : Int) (t17 : Int) (e0 : Int -> List Int -> Bool) : (Int × Int × List Int) -> ((Int × Int × List Int) -> Bool) -> Bool := fun v_ K => match v_ with
  | (carry, t18, z) => (cond (decide (t18 < t17)) (S_q12 x_1 t18 (fun nr => (S_q12 y_1 t18 (fun nr_1 => (S_q56 nr nr_1 carry (fun nr_2 nr_3 => ((inR t18 (List.length z)) && ((decide ((Int.toNat t18) < (List.length z))) && ((fits .i64 (t18 + 1)) && (K (nr_3, (t18 + 1), (List.set z (Int.toNat t18) nr_2)))))))))))) (e0 carry z))

def G_q115 (N_ : Nat) (S_q12 : TS_q12) (S_q56 : TS_q56) (S_q1 : TS_q1) (x : List Int) (y : List Int) (k0 : List Int -> Bool) : Bool :=
  ((fits .i64 ((imm true (((List.length x) : Nat) : Int) (((List.length y) : Nat) : Int)) + 1)) && ((mkOk 8 ((imm true (((List.length x) : Nat) : Int) (((List.length y) : Nat) : Int)) + 1) ((imm true (((List.length x) : Nat) : Int) (((List.length y) : Nat) : Int)) + 1)) && (iterG N_ (st_big_sum_0 N_ S_q12 S_q56 S_q1 x y (imm true (((List.length x) : Nat) : Int) (((List.length y) : Nat) : Int)) (imm true (((List.length x) : Nat) : Int) (((List.length y) : Nat) : Int)) (fun carry_1 z_1 => ((inR (imm true (((List.length x) : Nat) : Int) (((List.length y) : Nat) : Int)) (List.length z_1)) && ((decide ((Int.toNat (imm true (((List.length x) : Nat) : Int) (((List.length y) : Nat) : Int))) < (List.length z_1))) && (S_q1 (List.set z_1 (Int.toNat (imm true (((List.length x) : Nat) : Int) (((List.length y) : Nat) : Int))) carry_1) (fun mr mr_1 => ((decide ((mr + mr_1) <= (List.length (List.set z_1 (Int.toNat (imm true (((List.length x) : Nat) : Int) (((List.length y) : Nat) : Int))) carry_1)))) && (k0 (List.take mr_1 (List.drop mr (List.set z_1 (Int.toNat (imm true (((List.length x) : Nat) : Int) (((List.length y) : Nat) : Int))) carry_1))))))))))) (0, 0, (List.replicate (Int.toNat ((imm true (((List.length x) : Nat) : Int) (((List.length y) : Nat) : Int)) + 1)) (0 : Int))))))

def s_q115 (N_ : Nat) : TS_q115 := G_q115 N_ (s_q12 N_) (s_q56 N_) (s_q1 N_)

abbrev TS_q89 : Type := List Int -> List Int -> (Int -> Bool) -> Bool

def st_big_compare_0 (N_ : Nat) (x_1 : List Int) (y_1 : List Int) (e0 : Int -> Bool) (e1 : Bool) : (Int) -> ((Int) -> Bool) -> Bool := fun v_ K => match v_ with
  | i => (cond (decide (i >= 0)) ((inR i (List.length x_1)) && ((inR i (List.length y_1)) && (cond ((List.getD x_1 (Int.toNat i) 0) != (List.getD y_1 (Int.toNat i) 0)) ((inR i (List.length x_1)) && ((inR i (List.length y_1)) && (cond (decide ((List.getD x_1 (Int.toNat i) 0) < (List.getD y_1 (Int.toNat i) 0))) (e0 (-1)) (e0 1)))) ((fits .i64 (i - 1)) && (K (i - 1)))))) e1)

def G_q89 (N_ : Nat) (x : List Int) (y : List Int) (k0 : Int -> Bool) : Bool :=
  (cond ((((List.length x) : Nat) : Int) != (((List.length y) : Nat) : Int)) (cond (decide ((((List.length x) : Nat) : Int) < (((List.length y) : Nat) : Int))) (k0 (-1)) (k0 1)) ((fits .i64 ((((List.length x) : Nat) : Int) - 1)) && (iterG N_ (st_big_compare_0 N_ x y (fun t4 => (k0 t4)) (k0 0)) ((((List.length x) : Nat) : Int) - 1))))

def s_q89 (N_ : Nat) : TS_q89 := G_q89 N_

abbrev TS_q71 : Type := Int -> Int -> Int -> (Int -> Int -> Bool) -> Bool

def s_q71 (N_ : Nat) : TS_q71 := fun x y c k => (decide (c.toNat <= 1)) && k (((x.toNat + 18446744073709551616 - y.toNat - c.toNat) % 18446744073709551616 : Nat) : Int) (cond (decide (x.toNat < y.toNat + c.toNat)) 1 0)

abbrev TS_q121 : Type := List Int -> List Int -> (List Int -> Bool) -> Bool

def st_big_less_0 (N_ : Nat) (S_q12 : TS_q12) (S_q71 : TS_q71) (S_q1 : TS_q1) (x_1 : List Int) (y_1 : List Int) (t12 : Int) (e0 : List Int -> Bool) : (Int × Int × List Int) -> ((Int × Int × List Int) -> Bool) -> Bool := fun v_ K => match v_ with
  | (borrow, t13, z) => (cond (decide (t13 < t12)) ((inR t13 (List.length x_1)) && (S_q12 y_1 t13 (fun nr => (S_q71 (List.getD x_1 (Int.toNat t13) 0) nr borrow (fun nr_1 nr_2 => ((inR t13 (List.length z)) && ((decide ((Int.toNat t13) < (List.length z))) && ((fits .i64 (t13 + 1)) && (K (nr_2, (t13 + 1), (List.set z (Int.toNat t13) nr_1))))))))))) (e0 z))

def G_q121 (N_ : Nat) (S_q12 : TS_q12) (S_q71 : TS_q71) (S_q1 : TS_q1) (x : List Int) (y : List Int) (k0 : List Int -> Bool) : Bool :=
  ((mkOk 8 (((List.length x) : Nat) : Int) (((List.length x) : Nat) : Int)) && (iterG N_ (st_big_less_0 N_ S_q12 S_q71 S_q1 x y (((List.length x) : Nat) : Int) (fun z_1 => (S_q1 z_1 (fun mr mr_1 => ((decide ((mr + mr_1) <= (List.length z_1))) && (k0 (List.take mr_1 (List.drop mr z_1)))))))) (0, 0, (List.replicate (Int.toNat (((List.length x) : Nat) : Int)) (0 : Int)))))

def s_q121 (N_ : Nat) : TS_q121 := G_q121 N_ (s_q12 N_) (s_q71 N_) (s_q1 N_)

abbrev TS_q52 : Type := Bool -> List Int -> Bool -> Bool -> List Int -> (Bool -> List Int -> Bool) -> Bool

def G_q52 (N_ : Nat) (S_q115 : TS_q115) (S_q0 : TS_q0) (S_q89 : TS_q89) (S_q121 : TS_q121) (neg : Bool) (y : List Int) (b : Bool) (b_1 : Bool) (b_2 : List Int) (k0 : Bool -> List Int -> Bool) : Bool :=
  (cond (b_1 == neg) (S_q115 b_2 y (fun nsr => (S_q0 neg nsr b (fun cr => (k0 cr nsr))))) (S_q89 b_2 y (fun nr => (cond (decide (nr >= 0)) (S_q121 b_2 y (fun nsr_1 => (S_q0 b_1 nsr_1 b (fun cr_1 => (k0 cr_1 nsr_1))))) (S_q121 y b_2 (fun nsr_2 => (S_q0 neg nsr_2 b (fun cr_2 => (k0 cr_2 nsr_2)))))))))

def s_q52 (N_ : Nat) : TS_q52 := G_q52 N_ (s_q115 N_) (s_q0 N_) (s_q89 N_) (s_q121 N_)

abbrev TS_q19 : Type := Bool -> Bool -> List Int -> Bool -> List Int -> (Bool -> List Int -> Bool) -> Bool

def G_q19 (N_ : Nat) (S_q52 : TS_q52) (b : Bool) (b_1 : Bool) (b_2 : List Int) (b_3 : Bool) (b_4 : List Int) (k0 : Bool -> List Int -> Bool) : Bool :=
  (S_q52 b_3 b_4 b b_1 b_2 (fun cr nsr => (k0 cr nsr)))

def s_q19 (N_ : Nat) : TS_q19 := G_q19 N_ (s_q52 N_)

abbrev TS_q13 : Type := Int -> Int -> Bool -> Bool -> List Int -> (List Int -> Bool) -> (List Int -> Bool) -> (Int -> List Int -> Bool -> List Int -> Bool) -> Bool

def G_q13 (N_ : Nat) (S_q64 : TS_q64) (S_q3 : TS_q3) (S_q26 : TS_q26) (S_q19 : TS_q19) (x : Int) (y : Int) (b : Bool) (b_1 : Bool) (b_2 : List Int) (k0 : List Int -> Bool) (k1 : List Int -> Bool) (k2 : Int -> List Int -> Bool -> List Int -> Bool) : Bool :=
  (S_q64 b (fun nr nsr => (cond (nr == 0) (k0 nsr) (S_q3 b_1 b_2 (fun nr_1 => (cond (nr_1 == 0) (k1 nsr) (S_q26 x (imm false x y) b nsr (fun cr nsr_1 => (S_q26 y (imm false x y) b_1 b_2 (fun cr_1 nsr_2 => (S_q19 false cr nsr_1 cr_1 nsr_2 (fun cr_2 nsr_3 => (k2 (imm false x y) nsr cr_2 nsr_3)))))))))))))

def s_q13 (N_ : Nat) : TS_q13 := G_q13 N_ (s_q64 N_) (s_q3 N_) (s_q26 N_) (s_q19 N_)

abbrev TS_q2 : Type := Int -> Int -> Bool -> List Int -> Bool -> List Int -> (Bool) -> (Bool) -> (Int -> Bool -> List Int -> Bool) -> Bool

def G_q2 (N_ : Nat) (S_q3 : TS_q3) (S_q26 : TS_q26) (S_q19 : TS_q19) (x : Int) (y : Int) (b : Bool) (b_1 : List Int) (b_2 : Bool) (b_3 : List Int) (k0 : Bool) (k1 : Bool) (k2 : Int -> Bool -> List Int -> Bool) : Bool :=
  (S_q3 b b_1 (fun nr => (cond (nr == 0) k0 (S_q3 b_2 b_3 (fun nr_1 => (cond (nr_1 == 0) k1 (S_q26 x (imm false x y) b b_1 (fun cr nsr => (S_q26 y (imm false x y) b_2 b_3 (fun cr_1 nsr_1 => (S_q19 false cr nsr cr_1 nsr_1 (fun cr_2 nsr_2 => (k2 (imm false x y) cr_2 nsr_2)))))))))))))

def s_q2 (N_ : Nat) : TS_q2 := G_q2 N_ (s_q3 N_) (s_q26 N_) (s_q19 N_)

abbrev TS_q29 : Type := Bool -> Bool -> List Int -> (Bool -> List Int -> Bool) -> Bool

def G_q29 (N_ : Nat) (S_q65 : TS_q65) (S_q0 : TS_q0) (b : Bool) (b_1 : Bool) (b_2 : List Int) (k0 : Bool -> List Int -> Bool) : Bool :=
  (S_q65 b_2 (fun nsr => (S_q0 b_1 nsr b (fun cr => (k0 cr nsr)))))

def s_q29 (N_ : Nat) : TS_q29 := G_q29 N_ (s_q65 N_) (s_q0 N_)

abbrev TS_q45 : Type := Int -> Bool -> List Int -> (Int -> Bool) -> Bool

def G_q45 (N_ : Nat) (S_q12 : TS_q12) (i : Int) (b : Bool) (b_1 : List Int) (k0 : Int -> Bool) : Bool :=
  ((fits .i64 (Int.tdiv i 64)) && (S_q12 b_1 (Int.tdiv i 64) (fun nr => ((decide (0 <= (Int.tmod i 64))) && (k0 (bitsN .and .u64 (Int.fdiv nr (2 ^ (min (Int.toNat (Int.tmod i 64)) 64))) 1))))))

def s_q45 (N_ : Nat) : TS_q45 := G_q45 N_ (s_q12 N_)

abbrev TS_q6 : Type := Bool -> List Int -> (Int -> Bool) -> Bool

def st_q145 (N_ : Nat) (S_q4 : TS_q4) (t8 : List Int) (t9 : Int) (b0 : Bool) (b0_1 : List Int) (e0 : Int -> Bool) (e1 : Bool) : (Int) -> ((Int) -> Bool) -> Bool := fun v_ K => match v_ with
  | t10 => (cond (decide (t10 < t9)) ((inR t10 (List.length t8)) && (cond ((List.getD t8 (Int.toNat t10) 0) != 0) ((fits .i64 (64 * t10)) && (S_q4 (List.getD t8 (Int.toNat t10) 0) (fun nr => ((fits .i64 ((64 * t10) + nr)) && (e0 (IntKind.wrap .u64 ((64 * t10) + nr))))))) ((fits .i64 (t10 + 1)) && (K (t10 + 1))))) e1)

def G_q6 (N_ : Nat) (S_q4 : TS_q4) (b : Bool) (b_1 : List Int) (k0 : Int -> Bool) : Bool :=
  (iterG N_ (st_q145 N_ S_q4 b_1 (((List.length b_1) : Nat) : Int) b b_1 (fun t2 => (k0 t2)) (k0 0)) 0)

def s_q6 (N_ : Nat) : TS_q6 := G_q6 N_ (s_q4 N_)

abbrev TS_q104 : Type := List Int -> Int -> (List Int -> Bool -> Bool) -> Bool

def st_big_right_0 (N_ : Nat) (S_q12 : TS_q12) (S_q1 : TS_q1) (x_1 : List Int) (words : Int) (rest : Int) (t37 : List Int) (t38 : Int) (e0 : Int -> Bool) : (Int × Int) -> ((Int × Int) -> Bool) -> Bool := fun v_ K => match v_ with
  | (lost, t39) => (cond (decide (t39 < t38)) ((inR t39 (List.length t37)) && ((fits .i64 (t39 + 1)) && (K ((bitsN .or .u64 lost (List.getD t37 (Int.toNat t39) 0)), (t39 + 1))))) (e0 lost))

def st_big_right_2 (N_ : Nat) (S_q12 : TS_q12) (S_q1 : TS_q1) (x_2 : List Int) (words_1 : Int) (rest_1 : Int) (lost_2 : Int) (t53 : Int) (e0 : List Int -> Bool) : (Int × List Int) -> ((Int × List Int) -> Bool) -> Bool := fun v_ K => match v_ with
  | (t54, z) => (cond (decide (t54 < t53)) ((fits .i64 (words_1 + t54)) && (S_q12 x_2 (words_1 + t54) (fun nr => ((decide (0 <= rest_1)) && ((fits .i64 (words_1 + t54)) && ((fits .i64 ((words_1 + t54) + 1)) && (S_q12 x_2 ((words_1 + t54) + 1) (fun nr_1 => ((decide (0 <= (IntKind.wrap .u64 (64 - rest_1)))) && ((inR t54 (List.length z)) && ((decide ((Int.toNat t54) < (List.length z))) && ((fits .i64 (t54 + 1)) && (K ((t54 + 1), (List.set z (Int.toNat t54) (bitsN .or .u64 (Int.fdiv nr (2 ^ (min (Int.toNat rest_1) 64))) (IntKind.wrap .u64 (nr_1 * 2 ^ (min (Int.toNat (IntKind.wrap .u64 (64 - rest_1))) 64))))))))))))))))))) (e0 z))

def G_q104 (N_ : Nat) (S_q12 : TS_q12) (S_q1 : TS_q1) (x : List Int) (n : Int) (k0 : List Int -> Bool -> Bool) : Bool :=
  (cond (decide ((IntKind.wrap .u64 (Int.tdiv n 64)) >= (IntKind.wrap .u64 (((List.length x) : Nat) : Int)))) (k0 [] (decide ((((List.length x) : Nat) : Int) > 0))) ((fits .i64 (IntKind.wrap .u64 (Int.tdiv n 64))) && ((inR (IntKind.wrap .u64 (Int.tdiv n 64)) (List.length x)) && ((decide (0 <= (Int.tmod n 64))) && ((decide (0 <= (IntKind.wrap .u64 (Int.tdiv n 64)) /\ (IntKind.wrap .u64 (Int.tdiv n 64)) <= (((List.length x) : Nat) : Int))) && (iterG N_ (st_big_right_0 N_ S_q12 S_q1 x (IntKind.wrap .u64 (Int.tdiv n 64)) (Int.tmod n 64) (List.drop 0 (List.take (Int.toNat (IntKind.wrap .u64 (Int.tdiv n 64))) x)) (((List.length (List.drop 0 (List.take (Int.toNat (IntKind.wrap .u64 (Int.tdiv n 64))) x))) : Nat) : Int) (fun lost_1 => ((fits .i64 ((((List.length x) : Nat) : Int) - (IntKind.wrap .u64 (Int.tdiv n 64)))) && ((mkOk 8 ((((List.length x) : Nat) : Int) - (IntKind.wrap .u64 (Int.tdiv n 64))) ((((List.length x) : Nat) : Int) - (IntKind.wrap .u64 (Int.tdiv n 64)))) && (iterG N_ (st_big_right_2 N_ S_q12 S_q1 x (IntKind.wrap .u64 (Int.tdiv n 64)) (Int.tmod n 64) lost_1 (((List.length (List.replicate (Int.toNat ((((List.length x) : Nat) : Int) - (IntKind.wrap .u64 (Int.tdiv n 64)))) (0 : Int))) : Nat) : Int) (fun z_1 => (S_q1 z_1 (fun mr mr_1 => ((decide ((mr + mr_1) <= (List.length z_1))) && (k0 (List.take mr_1 (List.drop mr z_1)) (lost_1 != 0))))))) (0, (List.replicate (Int.toNat ((((List.length x) : Nat) : Int) - (IntKind.wrap .u64 (Int.tdiv n 64)))) (0 : Int)))))))) ((bitsN .and .u64 (List.getD x (Int.toNat (IntKind.wrap .u64 (Int.tdiv n 64))) 0) (IntKind.wrap .u64 ((IntKind.wrap .u64 ((1 : Int) * 2 ^ (min (Int.toNat (Int.tmod n 64)) 64))) - 1))), 0)))))))

def s_q104 (N_ : Nat) : TS_q104 := G_q104 N_ (s_q12 N_) (s_q1 N_)

abbrev TS_q11 : Type := Int -> Bool -> List Int -> (Bool -> List Int -> Bool) -> Bool

def G_q11 (N_ : Nat) (S_q104 : TS_q104) (S_q115 : TS_q115) (S_q25 : TS_q25) (n : Int) (b : Bool) (b_1 : List Int) (k0 : Bool -> List Int -> Bool) : Bool :=
  (S_q104 b_1 n (fun nsr cr => (cond (b == true) (cond cr (S_q115 nsr [1] (fun nsr_1 => (S_q25 b nsr_1 b b_1 (fun cr_1 => (k0 cr_1 nsr_1))))) (S_q25 b nsr b b_1 (fun cr_2 => (k0 cr_2 nsr)))) (S_q25 b nsr b b_1 (fun cr_3 => (k0 cr_3 nsr))))))

def s_q11 (N_ : Nat) : TS_q11 := G_q11 N_ (s_q104 N_) (s_q115 N_) (s_q25 N_)

abbrev TS_q15 : Type := Int -> Bool -> List Int -> (Int -> Bool -> List Int -> Bool) -> Bool

def st_q150 (N_ : Nat) (S_q29 : TS_q29) (S_q3 : TS_q3) (S_q45 : TS_q45) (S_q6 : TS_q6) (S_q11 : TS_q11) (b0 : Bool) (b0_1 : List Int) (t2 : Value) (t2_1 : Int) (e0 : Int -> Bool -> List Int -> Bool) : (Int × Bool × List Int) -> ((Int × Bool × List Int) -> Bool) -> Bool := fun v_ K => match v_ with
  | (e, n, n_1) => (S_q3 n n_1 (fun nr => (cond ((nr != 0) == true) (S_q45 0 n n_1 (fun nr_1 => (cond (nr_1 == 0) (S_q6 n n_1 (fun nr_2 => (S_q11 nr_2 n n_1 (fun cr_1 nsr_1 => ((fits .i64 nr_2) && ((fits .i64 (e + nr_2)) && (K ((e + nr_2), cr_1, nsr_1)))))))) (e0 e n n_1)))) (e0 e n n_1))))

def G_q15 (N_ : Nat) (S_q29 : TS_q29) (S_q3 : TS_q3) (S_q45 : TS_q45) (S_q6 : TS_q6) (S_q11 : TS_q11) (x : Int) (b : Bool) (b_1 : List Int) (k0 : Int -> Bool -> List Int -> Bool) : Bool :=
  (S_q29 false b b_1 (fun cr nsr => (iterG N_ (st_q150 N_ S_q29 S_q3 S_q45 S_q6 S_q11 b b_1 (.pointer none) 0 (fun e_1 n_2 n_3 => (k0 e_1 n_2 n_3))) (x, cr, nsr))))

def s_q15 (N_ : Nat) : TS_q15 := G_q15 N_ (s_q29 N_) (s_q3 N_) (s_q45 N_) (s_q6 N_) (s_q11 N_)

abbrev TS_q74 : Type := Int -> (Int -> Bool) -> Bool

def J_q144 (N_ : Nat) (x : Int) (x_2 : Int) (n_1 : Int) (k0 : Int -> Bool) : Bool :=
  (cond (decide (x_2 >= 256)) ((fits .i64 (n_1 + 8)) && ((inR (IntKind.wrap .u8 (Int.fdiv x_2 (2 ^ 8))) 256) && ((fits .i64 (List.getD strTab_11c1601c (Int.toNat (IntKind.wrap .u8 (Int.fdiv x_2 (2 ^ 8)))) 0)) && ((fits .i64 ((n_1 + 8) + (List.getD strTab_11c1601c (Int.toNat (IntKind.wrap .u8 (Int.fdiv x_2 (2 ^ 8)))) 0))) && (k0 ((n_1 + 8) + (List.getD strTab_11c1601c (Int.toNat (IntKind.wrap .u8 (Int.fdiv x_2 (2 ^ 8)))) 0))))))) ((inR (IntKind.wrap .u8 x_2) 256) && ((fits .i64 (List.getD strTab_11c1601c (Int.toNat (IntKind.wrap .u8 x_2)) 0)) && ((fits .i64 (n_1 + (List.getD strTab_11c1601c (Int.toNat (IntKind.wrap .u8 x_2)) 0))) && (k0 (n_1 + (List.getD strTab_11c1601c (Int.toNat (IntKind.wrap .u8 x_2)) 0)))))))

def J_q142 (N_ : Nat) (x : Int) (x_1 : Int) (n : Int) (k0 : Int -> Bool) : Bool :=
  (cond (decide (x_1 >= 65536)) ((fits .i64 (n + 16)) && (J_q144 N_ x (Int.fdiv x_1 (2 ^ 16)) (n + 16) k0)) (J_q144 N_ x x_1 n k0))

def G_q74 (N_ : Nat) (x : Int) (k0 : Int -> Bool) : Bool :=
  (cond (decide (x >= 4294967296)) (J_q142 N_ x (Int.fdiv x (2 ^ 32)) 32 k0) (J_q142 N_ x x 0 k0))

def s_q74 (N_ : Nat) : TS_q74 := G_q74 N_

abbrev TS_q102 : Type := List Int -> (Int -> Bool) -> Bool

def G_q102 (N_ : Nat) (S_q74 : TS_q74) (x : List Int) (k0 : Int -> Bool) : Bool :=
  (cond ((((List.length x) : Nat) : Int) == 0) (k0 0) ((fits .i64 ((((List.length x) : Nat) : Int) - 1)) && ((fits .i64 (64 * ((((List.length x) : Nat) : Int) - 1))) && ((fits .i64 ((((List.length x) : Nat) : Int) - 1)) && ((inR ((((List.length x) : Nat) : Int) - 1) (List.length x)) && (S_q74 (List.getD x (Int.toNat ((((List.length x) : Nat) : Int) - 1)) 0) (fun nr => ((fits .i64 ((64 * ((((List.length x) : Nat) : Int) - 1)) + nr)) && (k0 ((64 * ((((List.length x) : Nat) : Int) - 1)) + nr))))))))))

def s_q102 (N_ : Nat) : TS_q102 := G_q102 N_ (s_q74 N_)

abbrev TS_q28 : Type := Bool -> List Int -> (Int -> Bool) -> Bool

def G_q28 (N_ : Nat) (S_q102 : TS_q102) (b : Bool) (b_1 : List Int) (k0 : Int -> Bool) : Bool :=
  (S_q102 b_1 (fun nr => (k0 nr)))

def s_q28 (N_ : Nat) : TS_q28 := G_q28 N_ (s_q102 N_)

abbrev TS_q47 : Type := Int -> Bool -> (Bool -> List Int -> Bool) -> Bool

def G_q47 (N_ : Nat) (S_q100 : TS_q100) (S_q0 : TS_q0) (n : Int) (b : Bool) (k0 : Bool -> List Int -> Bool) : Bool :=
  (cond (decide (n < 0)) (S_q100 (IntKind.wrap .u64 (0 - (IntKind.wrap .u64 n))) (fun nsr => (S_q0 true nsr b (fun cr => (k0 cr nsr))))) (S_q100 (IntKind.wrap .u64 n) (fun nsr_1 => (S_q0 false nsr_1 b (fun cr_1 => (k0 cr_1 nsr_1))))))

def s_q47 (N_ : Nat) : TS_q47 := G_q47 N_ (s_q100 N_) (s_q0 N_)

abbrev TS_q51 : Type := Int -> (Bool -> List Int -> Bool) -> Bool

def G_q51 (N_ : Nat) (S_q47 : TS_q47) (n : Int) (k0 : Bool -> List Int -> Bool) : Bool :=
  (S_q47 n false (fun cr nsr => (k0 cr nsr)))

def s_q51 (N_ : Nat) : TS_q51 := G_q51 N_ (s_q47 N_)

abbrev TS_q27 : Type := Bool -> Bool -> List Int -> (Bool -> List Int -> Bool) -> Bool

def G_q27 (N_ : Nat) (S_q65 : TS_q65) (S_q0 : TS_q0) (b : Bool) (b_1 : Bool) (b_2 : List Int) (k0 : Bool -> List Int -> Bool) : Bool :=
  (S_q65 b_2 (fun nsr => (S_q0 false nsr b (fun cr => (k0 cr nsr)))))

def s_q27 (N_ : Nat) : TS_q27 := G_q27 N_ (s_q65 N_) (s_q0 N_)

abbrev TS_q31 : Type := Bool -> Nat -> Nat -> Bool -> List Int -> (Bool -> Bool) -> Bool

def G_q31 (N_ : Nat) (neg : Bool) (abs_0 : Nat) (abs_1 : Nat) (b : Bool) (b_1 : List Int) (k0 : Bool -> Bool) : Bool :=
  (cond (neg == true) (k0 (decide (((abs_1 : Nat) : Int) > 0))) (k0 false))

def s_q31 (N_ : Nat) : TS_q31 := G_q31 N_

abbrev TS_q17 : Type := Bool -> Bool -> List Int -> Bool -> List Int -> (Bool -> List Int -> Bool) -> Bool

def st_q151 (N_ : Nat) (S_q1 : TS_q1) (S_q31 : TS_q31) (t22 : Int) (z : Bool) (x : Bool) (x_1 : List Int) (y : Bool) (y_1 : List Int) (e0 : List Int -> Bool) : (Int × List Int) -> ((Int × List Int) -> Bool) -> Bool := fun v_ K => match v_ with
  | (t23, r) => (cond (decide (t23 < t22)) ((inR t23 (List.length x_1)) && ((inR t23 (List.length y_1)) && ((inR t23 (List.length r)) && ((decide ((Int.toNat t23) < (List.length r))) && ((fits .i64 (t23 + 1)) && (K ((t23 + 1), (List.set r (Int.toNat t23) (bitsN .and .u64 (List.getD x_1 (Int.toNat t23) 0) (List.getD y_1 (Int.toNat t23) 0)))))))))) (e0 r))

def G_q17 (N_ : Nat) (S_q1 : TS_q1) (S_q31 : TS_q31) (b : Bool) (b_1 : Bool) (b_2 : List Int) (b_3 : Bool) (b_4 : List Int) (k0 : Bool -> List Int -> Bool) : Bool :=
  ((mkOk 8 (imm false (((List.length b_2) : Nat) : Int) (((List.length b_4) : Nat) : Int)) (imm false (((List.length b_2) : Nat) : Int) (((List.length b_4) : Nat) : Int))) && (iterG N_ (st_q151 N_ S_q1 S_q31 (((List.length (List.replicate (Int.toNat (imm false (((List.length b_2) : Nat) : Int) (((List.length b_4) : Nat) : Int))) (0 : Int))) : Nat) : Int) b b_1 b_2 b_3 b_4 (fun r_1 => (S_q1 r_1 (fun mr mr_1 => (S_q31 false mr mr_1 b r_1 (fun cr => ((decide ((mr + mr_1) <= (List.length r_1))) && (k0 cr (List.take mr_1 (List.drop mr r_1)))))))))) (0, (List.replicate (Int.toNat (imm false (((List.length b_2) : Nat) : Int) (((List.length b_4) : Nat) : Int))) (0 : Int)))))

def s_q17 (N_ : Nat) : TS_q17 := G_q17 N_ (s_q1 N_) (s_q31 N_)

abbrev TS_q134 : Type := List Int -> (Int -> Bool) -> Bool

def G_q134 (N_ : Nat) (S_q12 : TS_q12) (x : List Int) (k0 : Int -> Bool) : Bool :=
  (S_q12 x 0 (fun nr => (k0 nr)))

def s_q134 (N_ : Nat) : TS_q134 := G_q134 N_ (s_q12 N_)

abbrev TS_q30 : Type := Bool -> List Int -> (Int -> Bool) -> Bool

def G_q30 (N_ : Nat) (S_q134 : TS_q134) (b : Bool) (b_1 : List Int) (k0 : Int -> Bool) : Bool :=
  (S_q134 b_1 (fun nr => (k0 nr)))

def s_q30 (N_ : Nat) : TS_q30 := G_q30 N_ (s_q134 N_)

abbrev TS_q10 : Type := Int -> Bool -> List Int -> (Bool -> Int -> Int -> Bool) -> (Bool -> Int -> Int -> List Int -> Bool) -> Bool

def st_q152 (N_ : Nat) (S_q15 : TS_q15) (S_q3 : TS_q3) (S_q28 : TS_q28) (S_q51 : TS_q51) (S_q27 : TS_q27) (S_q17 : TS_q17) (S_q30 : TS_q30) (S_q11 : TS_q11) (b0_2 : Bool) (b0_3 : List Int) (t2_2 : Bool) (t2_3 : Int) (d_2 : Bool) (d_3 : Int) (mask_2 : Bool) (mask_3 : List Int) (e0 : List Int -> Bool) : (Bool × List Int × List Int) -> ((Bool × List Int × List Int) -> Bool) -> Bool := fun v_ K => match v_ with
  | (m_2, m_3, b5) => (S_q3 m_2 m_3 (fun nr_6 => (cond (nr_6 != 0) (S_q17 false m_2 m_3 mask_2 mask_3 (fun cr_5 nsr_5 => (S_q30 cr_5 nsr_5 (fun nr_7 => ((decide ((List.length (b5 ++ [(IntKind.wrap .u32 nr_7)])) * 4 <= 140737488355328)) && (S_q11 32 m_2 m_3 (fun cr_6 nsr_6 => (K (cr_6, nsr_6, (b5 ++ [(IntKind.wrap .u32 nr_7)])))))))))) (e0 b5))))

def G_q10 (N_ : Nat) (S_q15 : TS_q15) (S_q3 : TS_q3) (S_q28 : TS_q28) (S_q51 : TS_q51) (S_q27 : TS_q27) (S_q17 : TS_q17) (S_q30 : TS_q30) (S_q11 : TS_q11) (x : Int) (b : Bool) (b_1 : List Int) (k0 : Bool -> Int -> Int -> Bool) (k1 : Bool -> Int -> Int -> List Int -> Bool) : Bool :=
  (S_q15 x b b_1 (fun nr cr nsr => (S_q3 cr nsr (fun nr_1 => (cond (nr_1 == 0) (k0 false 0 0) (S_q28 cr nsr (fun nr_2 => (cond ((decide (nr_2 > 65536)) == false) (cond ((decide (nr > 100000)) == false) (cond (decide (nr < (-100000))) (k0 false 0 2) (S_q3 cr nsr (fun nr_3 => (S_q51 4294967295 (fun cr_1 nsr_1 => (S_q27 false cr nsr (fun cr_2 nsr_2 => (iterG N_ (st_q152 N_ S_q15 S_q3 S_q28 S_q51 S_q27 S_q17 S_q30 S_q11 b b_1 false 0 (decide (nr_3 < 0)) nr cr_1 nsr_1 (fun b3 => (k1 (decide (nr_3 < 0)) nr 0 b3))) (cr_2, nsr_2, []))))))))) (k0 false 0 2)) (k0 false 0 2)))))))))

def s_q10 (N_ : Nat) : TS_q10 := G_q10 N_ (s_q15 N_) (s_q3 N_) (s_q28 N_) (s_q51 N_) (s_q27 N_) (s_q17 N_) (s_q30 N_) (s_q11 N_)

abbrev TS_q67 : Type := List Fl -> List Fl -> (Bool -> Int -> Int -> Bool) -> (Bool -> Int -> Int -> List Int -> Bool) -> Bool

def st_dyad_Dot_0 (N_ : Nat) (S_q78 : TS_q78) (S_q116 : TS_q116) (S_q14 : TS_q14) (S_q13 : TS_q13) (S_q2 : TS_q2) (S_q10 : TS_q10) (b_2 : List Fl) (t26_1 : List Fl) (t27_1 : Int) (t4_2 : Bool) (t4_3 : Int) (e0 : Int -> Bool -> List Int -> Bool) : (Int × Int × Bool × List Int) -> ((Int × Int × Bool × List Int) -> Bool) -> Bool := fun v_ K => match v_ with
  | (t28_1, s_1, b2_1, b2_2) => (cond (decide (t28_1 < t27_1)) ((inR t28_1 (List.length t26_1)) && (S_q116 (List.getD t26_1 (Int.toNat t28_1) none) (fun nr_3 cr_5 nsr_4 => ((inR t28_1 (List.length b_2)) && (S_q116 (List.getD b_2 (Int.toNat t28_1) none) (fun nr_4 cr_6 nsr_5 => (S_q14 nr_3 nr_4 cr_5 nsr_4 cr_6 nsr_5 (fun nr_5 cr_7 nsr_6 => (S_q2 s_1 nr_5 b2_1 b2_2 cr_7 nsr_6 ((fits .i64 (t28_1 + 1)) && (K ((t28_1 + 1), nr_5, cr_7, nsr_6))) ((fits .i64 (t28_1 + 1)) && (K ((t28_1 + 1), s_1, b2_1, b2_2))) (fun nr_6 cr_8 nsr_7 => ((fits .i64 (t28_1 + 1)) && (K ((t28_1 + 1), nr_6, cr_8, nsr_7))))))))))))) (e0 s_1 b2_1 b2_2))

def G_q67 (N_ : Nat) (S_q78 : TS_q78) (S_q116 : TS_q116) (S_q14 : TS_q14) (S_q13 : TS_q13) (S_q2 : TS_q2) (S_q10 : TS_q10) (a : List Fl) (b : List Fl) (k0 : Bool -> Int -> Int -> Bool) (k1 : Bool -> Int -> Int -> List Int -> Bool) : Bool :=
  (cond ((((List.length a) : Nat) : Int) != (((List.length b) : Nat) : Int)) (k0 false 0 3) (S_q78 a (fun cr => (cond ((!cr) == false) (S_q78 b (fun cr_1 => (cond (!cr_1) (k0 false 0 4) (iterG N_ (st_dyad_Dot_0 N_ S_q78 S_q116 S_q14 S_q13 S_q2 S_q10 b a (((List.length a) : Nat) : Int) false 0 (fun s_2 b2_3 b2_4 => (S_q10 s_2 b2_3 b2_4 (fun cr_9 nr_7 nr_8 => (k0 cr_9 nr_7 nr_8)) (fun cr_10 nr_9 nr_10 nsr_8 => (k1 cr_10 nr_9 nr_10 nsr_8))))) (0, 0, false, []))))) (k0 false 0 4)))))

def s_q67 (N_ : Nat) : TS_q67 := G_q67 N_ (s_q78 N_) (s_q116 N_) (s_q14 N_) (s_q13 N_) (s_q2 N_) (s_q10 N_)

abbrev TS_q99 : Type := Bool -> List Int -> Int -> (Bool -> Bool) -> Bool

def G_q99 (N_ : Nat) (d_0 : Bool) (d_1 : List Int) (d_2 : Int) (k0 : Bool -> Bool) : Bool :=
  (cond ((((List.length d_1) : Nat) : Int) == 0) (cond ((!d_0) == true) (k0 (d_2 == 0)) (k0 false)) (cond ((decide ((((List.length d_1) : Nat) : Int) <= 2048)) == true) ((fits .i64 ((((List.length d_1) : Nat) : Int) - 1)) && ((inR ((((List.length d_1) : Nat) : Int) - 1) (List.length d_1)) && (cond (((List.getD d_1 (Int.toNat ((((List.length d_1) : Nat) : Int) - 1)) 0) != 0) == true) ((inR 0 (List.length d_1)) && (cond (((Int.tmod (List.getD d_1 0 0) 2) == 1) == true) (cond ((decide (d_2 >= (-100000))) == true) (k0 (decide (d_2 <= 100000))) (k0 false)) (k0 false))) (k0 false)))) (k0 false)))

def s_q99 (N_ : Nat) : TS_q99 := G_q99 N_

abbrev TS_q34 : Type := Int -> Bool -> (Bool -> List Int -> Bool) -> Bool

def G_q34 (N_ : Nat) (S_q80 : TS_q80) (S_q0 : TS_q0) (n : Int) (b : Bool) (k0 : Bool -> List Int -> Bool) : Bool :=
  (S_q80 [] n (fun nsr => (S_q0 b nsr b (fun cr => (k0 cr nsr)))))

def s_q34 (N_ : Nat) : TS_q34 := G_q34 N_ (s_q80 N_) (s_q0 N_)

abbrev TS_q32 : Type := Bool -> Nat -> Nat -> Bool -> List Int -> List Int -> (Bool -> Bool) -> Bool

def G_q32 (N_ : Nat) (neg : Bool) (abs_0 : Nat) (abs_1 : Nat) (b : Bool) (b_1 : List Int) (b_2 : List Int) (k0 : Bool -> Bool) : Bool :=
  (cond (neg == true) (k0 (decide (((abs_1 : Nat) : Int) > 0))) (k0 false))

def s_q32 (N_ : Nat) : TS_q32 := G_q32 N_

abbrev TS_q23 : Type := Bool -> List Int -> Bool -> List Int -> (Bool -> List Int -> Bool) -> Bool

def st_q153 (N_ : Nat) (S_q12 : TS_q12) (S_q1 : TS_q1) (S_q32 : TS_q32) (t22 : Int) (z : Bool) (z_1 : List Int) (y : Bool) (y_1 : List Int) (e0 : List Int -> Bool) : (Int × List Int) -> ((Int × List Int) -> Bool) -> Bool := fun v_ K => match v_ with
  | (t23, r) => (cond (decide (t23 < t22)) (S_q12 z_1 t23 (fun nr => (S_q12 y_1 t23 (fun nr_1 => ((inR t23 (List.length r)) && ((decide ((Int.toNat t23) < (List.length r))) && ((fits .i64 (t23 + 1)) && (K ((t23 + 1), (List.set r (Int.toNat t23) (bitsN .or .u64 nr nr_1))))))))))) (e0 r))

def G_q23 (N_ : Nat) (S_q12 : TS_q12) (S_q1 : TS_q1) (S_q32 : TS_q32) (b : Bool) (b_1 : List Int) (b_2 : Bool) (b_3 : List Int) (k0 : Bool -> List Int -> Bool) : Bool :=
  ((mkOk 8 (imm true (((List.length b_1) : Nat) : Int) (((List.length b_3) : Nat) : Int)) (imm true (((List.length b_1) : Nat) : Int) (((List.length b_3) : Nat) : Int))) && (iterG N_ (st_q153 N_ S_q12 S_q1 S_q32 (((List.length (List.replicate (Int.toNat (imm true (((List.length b_1) : Nat) : Int) (((List.length b_3) : Nat) : Int))) (0 : Int))) : Nat) : Int) b b_1 b_2 b_3 (fun r_1 => (S_q1 r_1 (fun mr mr_1 => (S_q32 false mr mr_1 b b_1 r_1 (fun cr => ((decide ((mr + mr_1) <= (List.length r_1))) && (k0 cr (List.take mr_1 (List.drop mr r_1)))))))))) (0, (List.replicate (Int.toNat (imm true (((List.length b_1) : Nat) : Int) (((List.length b_3) : Nat) : Int))) (0 : Int)))))

def s_q23 (N_ : Nat) : TS_q23 := G_q23 N_ (s_q12 N_) (s_q1 N_) (s_q32 N_)

abbrev TS_q38 : Type := Int -> Bool -> List Int -> (Bool -> List Int -> Bool) -> Bool

def G_q38 (N_ : Nat) (S_q80 : TS_q80) (S_q25 : TS_q25) (n : Int) (b : Bool) (b_1 : List Int) (k0 : Bool -> List Int -> Bool) : Bool :=
  (S_q80 b_1 n (fun nsr => (S_q25 b nsr b b_1 (fun cr => (k0 cr nsr)))))

def s_q38 (N_ : Nat) : TS_q38 := G_q38 N_ (s_q80 N_) (s_q25 N_)

abbrev TS_q84 : Type := Bool -> List Int -> Int -> (Bool -> List Int -> Bool) -> Bool

def st_dyad_take_0 (N_ : Nat) (S_q34 : TS_q34) (S_q51 : TS_q51) (S_q23 : TS_q23) (S_q38 : TS_q38) (S_q18 : TS_q18) (d_3 : Bool) (d_4 : List Int) (d_5 : Int) (t2_2 : Value) (t2_3 : Int) (e0 : Bool -> List Int -> Bool) : (Int × Bool × List Int) -> ((Int × Bool × List Int) -> Bool) -> Bool := fun v_ K => match v_ with
  | (i_1, n_1, n_2) => (cond (decide (i_1 >= 0)) (S_q38 32 n_1 n_2 (fun cr_3 nsr_3 => ((inR i_1 (List.length d_4)) && ((fits .i64 (List.getD d_4 (Int.toNat i_1) 0)) && (S_q51 (List.getD d_4 (Int.toNat i_1) 0) (fun cr_4 nsr_4 => (S_q23 cr_3 nsr_3 cr_4 nsr_4 (fun cr_5 nsr_5 => ((fits .i64 (i_1 - 1)) && (K ((i_1 - 1), cr_5, nsr_5))))))))))) (e0 n_1 n_2))

def G_q84 (N_ : Nat) (S_q34 : TS_q34) (S_q51 : TS_q51) (S_q23 : TS_q23) (S_q38 : TS_q38) (S_q18 : TS_q18) (d_0 : Bool) (d_1 : List Int) (d_2 : Int) (k0 : Bool -> List Int -> Bool) : Bool :=
  ((fits .i64 ((((List.length d_1) : Nat) : Int) - 1)) && (iterG N_ (st_dyad_take_0 N_ S_q34 S_q51 S_q23 S_q38 S_q18 d_0 d_1 d_2 (.pointer none) 0 (fun n_3 n_4 => (cond d_0 (S_q18 n_3 n_4 (fun cr_6 nsr_6 => (k0 cr_6 nsr_6))) (k0 n_3 n_4)))) (((((List.length d_1) : Nat) : Int) - 1), false, [])))

def s_q84 (N_ : Nat) : TS_q84 := G_q84 N_ (s_q34 N_) (s_q51 N_) (s_q23 N_) (s_q38 N_) (s_q18 N_)

abbrev TS_q35 : Type := Bool -> Bool -> List Int -> (Bool -> List Int -> Bool) -> Bool

def G_q35 (N_ : Nat) (S_q65 : TS_q65) (S_q0 : TS_q0) (b : Bool) (b_1 : Bool) (b_2 : List Int) (k0 : Bool -> List Int -> Bool) : Bool :=
  (S_q65 b_2 (fun nsr => (S_q0 (!b_1) nsr b (fun cr => (k0 cr nsr)))))

def s_q35 (N_ : Nat) : TS_q35 := G_q35 N_ (s_q65 N_) (s_q0 N_)

abbrev TS_q58 : Type := Int -> Int -> Bool -> List Int -> Bool -> List Int -> (Int -> Bool -> List Int -> Bool) -> (Bool) -> Bool

def G_q58 (N_ : Nat) (S_q35 : TS_q35) (S_q2 : TS_q2) (x : Int) (y : Int) (b : Bool) (b_1 : List Int) (b_2 : Bool) (b_3 : List Int) (k0 : Int -> Bool -> List Int -> Bool) (k1 : Bool) : Bool :=
  (S_q35 false b_2 b_3 (fun cr nsr => (S_q2 x y b b_1 cr nsr (k0 y cr nsr) k1 (fun nr cr_1 nsr_1 => (k0 nr cr_1 nsr_1)))))

def s_q58 (N_ : Nat) : TS_q58 := G_q58 N_ (s_q35 N_) (s_q2 N_)

abbrev TS_q92 : Type := Bool -> List Int -> Int -> Bool -> List Int -> Int -> (Bool -> Int -> Int -> Bool) -> (Bool -> Int -> Int -> List Int -> Bool) -> Bool

def G_q92 (N_ : Nat) (S_q99 : TS_q99) (S_q84 : TS_q84) (S_q58 : TS_q58) (S_q10 : TS_q10) (a_0 : Bool) (a_1 : List Int) (a_2 : Int) (b_0 : Bool) (b_1 : List Int) (b_2 : Int) (k0 : Bool -> Int -> Int -> Bool) (k1 : Bool -> Int -> Int -> List Int -> Bool) : Bool :=
  (S_q99 a_0 a_1 a_2 (fun cr => (cond ((!cr) == false) (S_q99 b_0 b_1 b_2 (fun cr_1 => (cond (!cr_1) (k0 false 0 30) (S_q84 a_0 a_1 a_2 (fun cr_2 nsr => (S_q84 b_0 b_1 b_2 (fun cr_3 nsr_1 => (S_q58 a_2 b_2 cr_2 nsr cr_3 nsr_1 (fun nr cr_4 nsr_2 => (S_q10 nr cr_4 nsr_2 (fun cr_5 nr_1 nr_2 => (k0 cr_5 nr_1 nr_2)) (fun cr_6 nr_3 nr_4 nsr_3 => (k1 cr_6 nr_3 nr_4 nsr_3)))) (S_q10 a_2 cr_2 nsr (fun cr_7 nr_5 nr_6 => (k0 cr_7 nr_5 nr_6)) (fun cr_8 nr_7 nr_8 nsr_4 => (k1 cr_8 nr_7 nr_8 nsr_4))))))))))) (k0 false 0 30))))

def s_q92 (N_ : Nat) : TS_q92 := G_q92 N_ (s_q99 N_) (s_q84 N_) (s_q58 N_) (s_q10 N_)

abbrev TS_q68 : Type := Bool -> List Int -> Int -> Bool -> List Int -> Int -> (Bool -> Int -> Int -> Bool) -> (Bool -> Int -> Int -> List Int -> Bool) -> Bool

def G_q68 (N_ : Nat) (S_q92 : TS_q92) (a_0 : Bool) (a_1 : List Int) (a_2 : Int) (b_0 : Bool) (b_1 : List Int) (b_2 : Int) (k0 : Bool -> Int -> Int -> Bool) (k1 : Bool -> Int -> Int -> List Int -> Bool) : Bool :=
  (S_q92 a_0 a_1 a_2 b_0 b_1 b_2 (fun cr nr nr_1 => (k0 cr nr nr_1)) (fun cr_1 nr_2 nr_3 nsr => (k1 cr_1 nr_2 nr_3 nsr)))

def s_q68 (N_ : Nat) : TS_q68 := G_q68 N_ (s_q92 N_)

abbrev TS_q33 : Type := Bool -> List Int -> Int -> Bool -> List Int -> Int -> (Int -> Int -> Bool) -> Bool

def G_q33 (N_ : Nat) (S_q99 : TS_q99) (S_q84 : TS_q84) (S_q35 : TS_q35) (S_q2 : TS_q2) (S_q3 : TS_q3) (a_0 : Bool) (a_1 : List Int) (a_2 : Int) (b_0 : Bool) (b_1 : List Int) (b_2 : Int) (k0 : Int -> Int -> Bool) : Bool :=
  (S_q99 a_0 a_1 a_2 (fun cr => (cond ((!cr) == false) (S_q99 b_0 b_1 b_2 (fun cr_1 => (cond (!cr_1) (k0 0 30) (S_q84 a_0 a_1 a_2 (fun cr_2 nsr => (S_q84 b_0 b_1 b_2 (fun cr_3 nsr_1 => (S_q35 false cr_3 nsr_1 (fun cr_4 nsr_2 => (S_q2 a_2 b_2 cr_2 nsr cr_4 nsr_2 (S_q3 cr_4 nsr_2 (fun nr => (k0 nr 0))) (S_q3 cr_2 nsr (fun nr_1 => (k0 nr_1 0))) (fun nr_2 cr_5 nsr_3 => (S_q3 cr_5 nsr_3 (fun nr_3 => (k0 nr_3 0)))))))))))))) (k0 0 30))))

def s_q33 (N_ : Nat) : TS_q33 := G_q33 N_ (s_q99 N_) (s_q84 N_) (s_q35 N_) (s_q2 N_) (s_q3 N_)

abbrev TS_q94 : Type := Fl -> Fl -> Fl -> Fl -> (Bool -> Bool) -> Bool

def J_q158 (N_ : Nat) (S_q7 : TS_q7) (S_q46 : TS_q46) (S_q67 : TS_q67) (S_q68 : TS_q68) (S_q33 : TS_q33) (q_0 : Fl) (q_1 : Fl) (q_2 : Fl) (q_3 : Fl) (b7 : List Int) (off_6 : Bool) (off_7 : Int) (k0 : Bool -> Bool) : Bool :=
  (S_q33 false b7 off_7 false [1] (-48) (fun nr_18 nr_19 => (cond ((nr_19 == 0) == true) (k0 (decide (nr_18 <= 0))) (k0 false))))

def J_q157 (N_ : Nat) (S_q7 : TS_q7) (S_q46 : TS_q46) (S_q67 : TS_q67) (S_q68 : TS_q68) (S_q33 : TS_q33) (q_0 : Fl) (q_1 : Fl) (q_2 : Fl) (q_3 : Fl) (off_4 : Bool) (off_5 : Int) (k0 : Bool -> Bool) : Bool :=
  (S_q33 false [] off_5 false [1] (-48) (fun nr_16 nr_17 => (cond ((nr_17 == 0) == true) (k0 (decide (nr_16 <= 0))) (k0 false))))

def J_q149 (N_ : Nat) (S_q7 : TS_q7) (S_q46 : TS_q46) (S_q67 : TS_q67) (S_q68 : TS_q68) (S_q33 : TS_q33) (q_0 : Fl) (q_1 : Fl) (q_2 : Fl) (q_3 : Fl) (b3 : List Int) (n_2 : Bool) (n_3 : Int) (k0 : Bool -> Bool) : Bool :=
  (S_q68 n_2 b3 n_3 false [1] 0 (fun cr_5 nr_12 nr_13 => (cond (nr_13 != 0) (k0 false) (J_q157 N_ S_q7 S_q46 S_q67 S_q68 S_q33 q_0 q_1 q_2 q_3 cr_5 nr_12 k0))) (fun cr_6 nr_14 nr_15 nsr_2 => (cond (nr_15 != 0) (k0 false) (J_q158 N_ S_q7 S_q46 S_q67 S_q68 S_q33 q_0 q_1 q_2 q_3 nsr_2 cr_6 nr_14 k0))))

def J_q156 (N_ : Nat) (S_q7 : TS_q7) (S_q46 : TS_q46) (S_q67 : TS_q67) (S_q68 : TS_q68) (S_q33 : TS_q33) (q_0 : Fl) (q_1 : Fl) (q_2 : Fl) (q_3 : Fl) (b6 : List Int) (off_2 : Bool) (off_3 : Int) (k0 : Bool -> Bool) : Bool :=
  (S_q33 false b6 off_3 false [1] (-48) (fun nr_10 nr_11 => (cond ((nr_11 == 0) == true) (k0 (decide (nr_10 <= 0))) (k0 false))))

def J_q155 (N_ : Nat) (S_q7 : TS_q7) (S_q46 : TS_q46) (S_q67 : TS_q67) (S_q68 : TS_q68) (S_q33 : TS_q33) (q_0 : Fl) (q_1 : Fl) (q_2 : Fl) (q_3 : Fl) (off : Bool) (off_1 : Int) (k0 : Bool -> Bool) : Bool :=
  (S_q33 false [] off_1 false [1] (-48) (fun nr_8 nr_9 => (cond ((nr_9 == 0) == true) (k0 (decide (nr_8 <= 0))) (k0 false))))

def J_q148 (N_ : Nat) (S_q7 : TS_q7) (S_q46 : TS_q46) (S_q67 : TS_q67) (S_q68 : TS_q68) (S_q33 : TS_q33) (q_0 : Fl) (q_1 : Fl) (q_2 : Fl) (q_3 : Fl) (n : Bool) (n_1 : Int) (k0 : Bool -> Bool) : Bool :=
  (S_q68 n [] n_1 false [1] 0 (fun cr_3 nr_4 nr_5 => (cond (nr_5 != 0) (k0 false) (J_q155 N_ S_q7 S_q46 S_q67 S_q68 S_q33 q_0 q_1 q_2 q_3 cr_3 nr_4 k0))) (fun cr_4 nr_6 nr_7 nsr_1 => (cond (nr_7 != 0) (k0 false) (J_q156 N_ S_q7 S_q46 S_q67 S_q68 S_q33 q_0 q_1 q_2 q_3 nsr_1 cr_4 nr_6 k0))))

def G_q94 (N_ : Nat) (S_q7 : TS_q7) (S_q46 : TS_q46) (S_q67 : TS_q67) (S_q68 : TS_q68) (S_q33 : TS_q33) (q_0 : Fl) (q_1 : Fl) (q_2 : Fl) (q_3 : Fl) (k0 : Bool -> Bool) : Bool :=
  (S_q7 q_0 q_1 q_2 q_3 (fun cr => (cond (!cr) (k0 false) (S_q46 q_0 q_1 q_2 q_3 (S_q67 [q_0, q_1, q_2, q_3] [q_0, q_1, q_2, q_3] (fun cr_1 nr nr_1 => (cond (nr_1 != 0) (k0 false) (J_q148 N_ S_q7 S_q46 S_q67 S_q68 S_q33 q_0 q_1 q_2 q_3 cr_1 nr k0))) (fun cr_2 nr_2 nr_3 nsr => (cond (nr_3 != 0) (k0 false) (J_q149 N_ S_q7 S_q46 S_q67 S_q68 S_q33 q_0 q_1 q_2 q_3 nsr cr_2 nr_2 k0))))))))

def s_q94 (N_ : Nat) : TS_q94 := G_q94 N_ (s_q7 N_) (s_q46 N_) (s_q67 N_) (s_q68 N_) (s_q33 N_)

abbrev TS_q66 : Type := (Fl -> Fl -> Fl -> Fl -> Bool) -> Bool

def G_q66 (N_ : Nat) (k0 : Fl -> Fl -> Fl -> Fl -> Bool) : Bool :=
  (k0 (some 4611686018427387904) (some 0) (some 0) (some 0))

def s_q66 (N_ : Nat) : TS_q66 := G_q66 N_

abbrev TS_q41 : Type := (Bool -> Bool) -> Bool

def G_q41 (N_ : Nat) (S_q110 : TS_q110) (S_q114 : TS_q114) (S_q88 : TS_q88) (S_q94 : TS_q94) (S_q66 : TS_q66) (k0 : Bool -> Bool) : Bool :=
  (S_q110 (some 0) (some 4613937818241073152) (some 4616189618054758400) (some 0) (fun xr xr_1 xr_2 xr_3 nr => (S_q114 (some 4602678819172646912) (some 4602678819172646912) (some 4602678819172646912) (some 4602678819172646912) (some 4607182418800017408) (some 4611686018427387904) (some 4613937818241073152) (fun xr_4 xr_5 xr_6 nr_1 => (S_q88 (some 0) (some 4607182418800017408) (some 0) (some 0) (some 0) (some 0) (some 4607182418800017408) (some 0) (fun xr_7 xr_8 xr_9 xr_10 nr_2 => (cond ((nr == 0) == true) (cond ((feq xr_1 (some 4603579539098121011)) == true) (cond ((feq xr_2 (some 4605380978949069210)) == true) (cond ((nr_1 == 0) == true) (cond ((feq xr_4 (some 4613937818241073152)) == true) (cond ((feq xr_5 (some 4607182418800017408)) == true) (cond ((feq xr_6 (some 4611686018427387904)) == true) (cond ((nr_2 == 0) == true) (cond ((feq xr_10 (some 4607182418800017408)) == true) (cond ((feq xr_7 (some 0)) == true) (S_q94 (some 4602678819172646912) (some 4602678819172646912) (some 4602678819172646912) (some 4602678819172646912) (fun cr => (cond (cr == true) (S_q66 (fun xr_11 xr_12 xr_13 xr_14 => (S_q94 xr_11 xr_12 xr_13 xr_14 (fun cr_1 => (k0 (!cr_1)))))) (k0 false)))) (k0 false)) (k0 false)) (k0 false)) (k0 false)) (k0 false)) (k0 false)) (k0 false)) (k0 false)) (k0 false)) (k0 false))))))))

def s_q41 (N_ : Nat) : TS_q41 := G_q41 N_ (s_q110 N_) (s_q114 N_) (s_q88 N_) (s_q94 N_) (s_q66 N_)

abbrev TS_q37 : Type := Int -> Int -> Int -> Int -> Int -> (Fl -> Fl -> Fl -> Fl -> Bool) -> Bool

def G_q37 (N_ : Nat) (l_0 : Int) (l_1 : Int) (l_2 : Int) (l_3 : Int) (k_ : Int) (k0 : Fl -> Fl -> Fl -> Fl -> Bool) : Bool :=
  ((decide (0 <= (IntKind.wrap .u64 k_))) && ((fits .i64 ((1 : Int) * 2 ^ (min (Int.toNat (IntKind.wrap .u64 k_)) 64))) && ((!decide (((1 : Int) * 2 ^ (min (Int.toNat (IntKind.wrap .u64 k_)) 64)) = 0)) && ((!decide (((1 : Int) * 2 ^ (min (Int.toNat (IntKind.wrap .u64 k_)) 64)) = 0)) && ((!decide (((1 : Int) * 2 ^ (min (Int.toNat (IntKind.wrap .u64 k_)) 64)) = 0)) && ((!decide (((1 : Int) * 2 ^ (min (Int.toNat (IntKind.wrap .u64 k_)) 64)) = 0)) && (k0 (some (FloatKind.nearest .f64 (Int.tmod l_0 ((1 : Int) * 2 ^ (min (Int.toNat (IntKind.wrap .u64 k_)) 64))))) (some (FloatKind.nearest .f64 (Int.tmod l_1 ((1 : Int) * 2 ^ (min (Int.toNat (IntKind.wrap .u64 k_)) 64))))) (some (FloatKind.nearest .f64 (Int.tmod l_2 ((1 : Int) * 2 ^ (min (Int.toNat (IntKind.wrap .u64 k_)) 64))))) (some (FloatKind.nearest .f64 (Int.tmod l_3 ((1 : Int) * 2 ^ (min (Int.toNat (IntKind.wrap .u64 k_)) 64))))))))))))

def s_q37 (N_ : Nat) : TS_q37 := G_q37 N_

abbrev TS_q123 : Type := Fl -> Fl -> Fl -> Fl -> (List Fl -> Bool) -> Bool

def G_q123 (N_ : Nat) (q_0 : Fl) (q_1 : Fl) (q_2 : Fl) (q_3 : Fl) (k0 : List Fl -> Bool) : Bool :=
  (k0 [q_0, q_1, q_2, q_3])

def s_q123 (N_ : Nat) : TS_q123 := G_q123 N_

abbrev TS_q95 : Type := (Int -> Bool -> Bool) -> Bool

def G_q95 (N_ : Nat) (k0 : Int -> Bool -> Bool) : Bool :=
  (k0 0 false)

def s_q95 (N_ : Nat) : TS_q95 := G_q95 N_

abbrev TS_q122 : Type := Fl -> (Int -> Bool) -> Bool

def G_q122 (N_ : Nat) (S_q90 : TS_q90) (x : Fl) (k0 : Int -> Bool) : Bool :=
  (cond (!feq x x) (k0 9221120237041090561) (S_q90 x (fun nr => (k0 nr))))

def s_q122 (N_ : Nat) : TS_q122 := G_q122 N_ (s_q90 N_)

abbrev TS_q87 : Type := Fl -> (Bool -> Int -> Int -> Bool) -> Bool

def G_q87 (N_ : Nat) (S_q122 : TS_q122) (x : Fl) (k0 : Bool -> Int -> Int -> Bool) : Bool :=
  (S_q122 x (fun nr => ((fits .i64 (Int.tmod (Int.fdiv nr (2 ^ 52)) 2048)) && (k0 ((Int.fdiv nr (2 ^ 63)) == 1) (Int.tmod (Int.fdiv nr (2 ^ 52)) 2048) (Int.tmod nr 4503599627370496)))))

def s_q87 (N_ : Nat) : TS_q87 := G_q87 N_ (s_q122 N_)

abbrev TS_q109 : Type := Int -> Int -> (Int -> Int -> Bool) -> Bool

def st_z01_odd_0 (N_ : Nat) (e0 : Int -> Int -> Bool) : (Int × Int) -> ((Int × Int) -> Bool) -> Bool := fun v_ K => match v_ with
  | (m_1, e_1) => (cond ((Int.tmod m_1 2) == 0) ((fits .i64 (e_1 + 1)) && (K ((IntKind.wrap .u64 (Int.tdiv m_1 2)), (e_1 + 1)))) (e0 m_1 e_1))

def G_q109 (N_ : Nat) (m : Int) (e : Int) (k0 : Int -> Int -> Bool) : Bool :=
  (cond (m == 0) (k0 0 0) (iterG N_ (st_z01_odd_0 N_ (fun m_2 e_2 => (k0 m_2 e_2))) (m, e)))

def s_q109 (N_ : Nat) : TS_q109 := G_q109 N_

abbrev TS_q103 : Type := Fl -> (Bool -> Int -> Int -> Int -> Bool) -> Bool

def J_q146 (N_ : Nat) (S_q87 : TS_q87) (S_q109 : TS_q109) (x : Fl) (neg : Bool) (e : Int) (f : Int) (k0 : Bool -> Int -> Int -> Int -> Bool) : Bool :=
  ((fits .i64 (e - 1074)) && (S_q109 f (e - 1074) (fun nr_2 nr_3 => (k0 neg nr_2 nr_3 0))))

def G_q103 (N_ : Nat) (S_q87 : TS_q87) (S_q109 : TS_q109) (x : Fl) (k0 : Bool -> Int -> Int -> Int -> Bool) : Bool :=
  (S_q87 x (fun cr nr nr_1 => (cond (nr == 2047) (k0 false 0 0 4) (cond (decide (nr > 0)) ((fits .i64 (nr - 1)) && (J_q146 N_ S_q87 S_q109 x cr (nr - 1) (IntKind.wrap .u64 (nr_1 + 4503599627370496)) k0)) (J_q146 N_ S_q87 S_q109 x cr nr nr_1 k0)))))

def s_q103 (N_ : Nat) : TS_q103 := G_q103 N_ (s_q87 N_) (s_q109 N_)

abbrev TS_q9 : Type := List Int -> (Nat -> Nat -> Bool) -> Bool

def st_q154 (N_ : Nat) (m_1 : Nat) (m_3 : List Int) (e0 : Nat -> Bool) : (Nat) -> ((Nat) -> Bool) -> Bool := fun v_ K => match v_ with
  | m_2 => (cond ((decide (((m_2 : Nat) : Int) > 0)) == true) ((fits .i64 (((m_2 : Nat) : Int) - 1)) && ((inR (((m_2 : Nat) : Int) - 1) m_2) && ((decide ((m_1 + (Int.toNat (((m_2 : Nat) : Int) - 1))) < (List.length m_3))) && (cond ((List.getD m_3 (m_1 + (Int.toNat (((m_2 : Nat) : Int) - 1))) 0) == 0) ((fits .i64 (((m_2 : Nat) : Int) - 1)) && ((decide (0 <= (((m_2 : Nat) : Int) - 1) /\ (((m_2 : Nat) : Int) - 1) <= ((m_2 : Nat) : Int))) && (K ((Int.toNat (((m_2 : Nat) : Int) - 1)) - 0)))) (e0 m_2))))) (e0 m_2))

def G_q9 (N_ : Nat) (b : List Int) (k0 : Nat -> Nat -> Bool) : Bool :=
  (iterG N_ (st_q154 N_ 0 b (fun m_4 => (k0 0 m_4))) (List.length b))

def s_q9 (N_ : Nat) : TS_q9 := G_q9 N_

abbrev TS_q113 : Type := Int -> (List Int -> Bool) -> Bool

def G_q113 (N_ : Nat) (S_q9 : TS_q9) (n : Int) (k0 : List Int -> Bool) : Bool :=
  (S_q9 [(IntKind.wrap .u32 n), (IntKind.wrap .u32 (Int.fdiv n (2 ^ 32)))] (fun mr mr_1 => ((decide ((mr + mr_1) <= (List.length [(IntKind.wrap .u32 n), (IntKind.wrap .u32 (Int.fdiv n (2 ^ 32)))]))) && (k0 (List.take mr_1 (List.drop mr [(IntKind.wrap .u32 n), (IntKind.wrap .u32 (Int.fdiv n (2 ^ 32)))]))))))

def s_q113 (N_ : Nat) : TS_q113 := G_q113 N_ (s_q9 N_)

abbrev TS_q128 : Type := List Int -> (List Int -> Bool) -> Bool

def st_z00_cut_0 (N_ : Nat) (e0 : List Int -> Bool) : (List Int) -> ((List Int) -> Bool) -> Bool := fun v_ K => match v_ with
  | m_1 => (cond ((decide ((((List.length m_1) : Nat) : Int) > 0)) == true) ((fits .i64 ((((List.length m_1) : Nat) : Int) - 1)) && ((inR ((((List.length m_1) : Nat) : Int) - 1) (List.length m_1)) && (cond ((List.getD m_1 (Int.toNat ((((List.length m_1) : Nat) : Int) - 1)) 0) == 0) ((fits .i64 ((((List.length m_1) : Nat) : Int) - 1)) && ((decide (0 <= ((((List.length m_1) : Nat) : Int) - 1) /\ ((((List.length m_1) : Nat) : Int) - 1) <= (((List.length m_1) : Nat) : Int))) && (K (List.drop 0 (List.take (Int.toNat ((((List.length m_1) : Nat) : Int) - 1)) m_1))))) (e0 m_1)))) (e0 m_1))

def G_q128 (N_ : Nat) (m : List Int) (k0 : List Int -> Bool) : Bool :=
  (iterG N_ (st_z00_cut_0 N_ (fun m_2 => (k0 m_2))) m)

def s_q128 (N_ : Nat) : TS_q128 := G_q128 N_

abbrev TS_q50 : Type := Bool -> List Int -> Bool -> (Bool -> List Int -> Bool) -> Bool

def G_q50 (N_ : Nat) (S_q128 : TS_q128) (neg : Bool) (m : List Int) (b : Bool) (k0 : Bool -> List Int -> Bool) : Bool :=
  (S_q128 m (fun nsr => (cond (neg == true) (k0 (decide ((((List.length nsr) : Nat) : Int) > 0)) nsr) (k0 false nsr))))

def s_q50 (N_ : Nat) : TS_q50 := G_q50 N_ (s_q128 N_)

abbrev TS_q59 : Type := Int -> Bool -> (Bool -> List Int -> Bool) -> Bool

def G_q59 (N_ : Nat) (S_q113 : TS_q113) (S_q50 : TS_q50) (n : Int) (b : Bool) (k0 : Bool -> List Int -> Bool) : Bool :=
  (S_q113 n (fun nsr => (S_q50 false nsr b (fun cr nsr_1 => (k0 cr nsr_1)))))

def s_q59 (N_ : Nat) : TS_q59 := G_q59 N_ (s_q113 N_) (s_q50 N_)

abbrev TS_q83 : Type := Bool -> Bool -> List Int -> List Int -> (Bool -> Nat -> Nat -> Bool) -> Bool

def G_q83 (N_ : Nat) (S_q9 : TS_q9) (neg : Bool) (b : Bool) (b_1 : List Int) (b_2 : List Int) (k0 : Bool -> Nat -> Nat -> Bool) : Bool :=
  (S_q9 b_2 (fun mr mr_1 => (cond (neg == true) (k0 (decide (((mr_1 : Nat) : Int) > 0)) mr mr_1) (k0 false mr mr_1))))

def s_q83 (N_ : Nat) : TS_q83 := G_q83 N_ (s_q9 N_)

abbrev TS_q81 : Type := Bool -> List Int -> (Bool -> List Int -> Bool) -> Bool

def G_q81 (N_ : Nat) (S_q83 : TS_q83) (b : Bool) (b_1 : List Int) (k0 : Bool -> List Int -> Bool) : Bool :=
  ((decide ((List.length ([] ++ b_1)) * 4 <= 140737488355328)) && (S_q83 (!b) b b_1 ([] ++ b_1) (fun cr mr mr_1 => ((decide ((mr + mr_1) <= (List.length ([] ++ b_1)))) && (k0 cr (List.take mr_1 (List.drop mr ([] ++ b_1))))))))

def s_q81 (N_ : Nat) : TS_q81 := G_q81 N_ (s_q83 N_)

abbrev TS_q108 : Type := Fl -> (Int -> Bool -> List Int -> Bool) -> Bool

def G_q108 (N_ : Nat) (S_q103 : TS_q103) (S_q59 : TS_q59) (S_q81 : TS_q81) (x : Fl) (k0 : Int -> Bool -> List Int -> Bool) : Bool :=
  (S_q103 x (fun cr nr nr_1 nr_2 => (S_q59 nr false (fun cr_1 nsr => (cond cr (S_q81 cr_1 nsr (fun cr_2 nsr_1 => (k0 nr_1 cr_2 nsr_1))) (k0 nr_1 cr_1 nsr))))))

def s_q108 (N_ : Nat) : TS_q108 := G_q108 N_ (s_q103 N_) (s_q59 N_) (s_q81 N_)

abbrev TS_q101 : Type := List Int -> List Int -> (List Int -> Bool) -> Bool

def st_z00_times_2 (N_ : Nat) (S_q9 : TS_q9) (a_2 : List Int) (b_2 : List Int) (i_1 : Int) (e0 : Int -> List Int -> Bool) : (Int × Int × List Int) -> ((Int × Int × List Int) -> Bool) -> Bool := fun v_ K => match v_ with
  | (carry, k_, out_1) => (cond (decide (k_ < (((List.length b_2) : Nat) : Int))) ((inR i_1 (List.length a_2)) && ((inR k_ (List.length b_2)) && ((fits .i64 (i_1 + k_)) && ((inR (i_1 + k_) (List.length out_1)) && ((decide ((Int.toNat (i_1 + k_)) < (List.length out_1))) && ((fits .i64 (i_1 + k_)) && ((inR (i_1 + k_) (List.length out_1)) && ((decide ((Int.toNat (i_1 + k_)) < (List.length out_1))) && ((fits .i64 (k_ + 1)) && (K ((Int.fdiv (IntKind.wrap .u64 ((IntKind.wrap .u64 ((IntKind.wrap .u64 ((IntKind.wrap .u64 (List.getD a_2 (Int.toNat i_1) 0)) * (IntKind.wrap .u64 (List.getD b_2 (Int.toNat k_) 0)))) + (IntKind.wrap .u64 (List.getD out_1 (Int.toNat (i_1 + k_)) 0)))) + carry)) (2 ^ 32)), (k_ + 1), (List.set out_1 (Int.toNat (i_1 + k_)) (IntKind.wrap .u32 (IntKind.wrap .u64 ((IntKind.wrap .u64 ((IntKind.wrap .u64 ((IntKind.wrap .u64 (List.getD a_2 (Int.toNat i_1) 0)) * (IntKind.wrap .u64 (List.getD b_2 (Int.toNat k_) 0)))) + (IntKind.wrap .u64 (List.getD out_1 (Int.toNat (i_1 + k_)) 0)))) + carry))))))))))))))) (e0 carry out_1))

def st_z00_times_0 (N_ : Nat) (S_q9 : TS_q9) (a_1 : List Int) (b_1 : List Int) (e0 : List Int -> Bool) : (Int × List Int) -> ((Int × List Int) -> Bool) -> Bool := fun v_ K => match v_ with
  | (i, out) => (cond (decide (i < (((List.length a_1) : Nat) : Int))) (iterG N_ (st_z00_times_2 N_ S_q9 a_1 b_1 i (fun carry_1 out_2 => ((fits .i64 (i + (((List.length b_1) : Nat) : Int))) && ((inR (i + (((List.length b_1) : Nat) : Int)) (List.length out_2)) && ((decide ((Int.toNat (i + (((List.length b_1) : Nat) : Int))) < (List.length out_2))) && ((fits .i64 (i + 1)) && (K ((i + 1), (List.set out_2 (Int.toNat (i + (((List.length b_1) : Nat) : Int))) (IntKind.wrap .u32 carry_1)))))))))) (0, 0, out)) (e0 out))

def G_q101 (N_ : Nat) (S_q9 : TS_q9) (a : List Int) (b : List Int) (k0 : List Int -> Bool) : Bool :=
  ((fits .i64 ((((List.length a) : Nat) : Int) + (((List.length b) : Nat) : Int))) && ((mkOk 4 ((((List.length a) : Nat) : Int) + (((List.length b) : Nat) : Int)) ((((List.length a) : Nat) : Int) + (((List.length b) : Nat) : Int))) && (iterG N_ (st_z00_times_0 N_ S_q9 a b (fun out_3 => (S_q9 out_3 (fun mr mr_1 => ((decide ((mr + mr_1) <= (List.length out_3))) && (k0 (List.take mr_1 (List.drop mr out_3)))))))) (0, (List.replicate (Int.toNat ((((List.length a) : Nat) : Int) + (((List.length b) : Nat) : Int))) (0 : Int))))))

def s_q101 (N_ : Nat) : TS_q101 := G_q101 N_ (s_q9 N_)

abbrev TS_q61 : Type := Bool -> Bool -> List Int -> Bool -> List Int -> (Bool -> List Int -> Bool) -> Bool

def G_q61 (N_ : Nat) (S_q101 : TS_q101) (S_q50 : TS_q50) (b : Bool) (b_1 : Bool) (b_2 : List Int) (b_3 : Bool) (b_4 : List Int) (k0 : Bool -> List Int -> Bool) : Bool :=
  (S_q101 b_2 b_4 (fun nsr => (S_q50 (b_1 != b_3) nsr b (fun cr nsr_1 => (k0 cr nsr_1)))))

def s_q61 (N_ : Nat) : TS_q61 := G_q61 N_ (s_q101 N_) (s_q50 N_)

abbrev TS_q5 : Type := Int -> Int -> Bool -> List Int -> Bool -> List Int -> (Int -> Bool -> List Int -> Bool) -> Bool

def G_q5 (N_ : Nat) (S_q61 : TS_q61) (x : Int) (y : Int) (b : Bool) (b_1 : List Int) (b_2 : Bool) (b_3 : List Int) (k0 : Int -> Bool -> List Int -> Bool) : Bool :=
  (S_q61 false b b_1 b_2 b_3 (fun cr nsr => ((fits .i64 (x + y)) && (k0 (x + y) cr nsr))))

def s_q5 (N_ : Nat) : TS_q5 := G_q5 N_ (s_q61 N_)

abbrev TS_q91 : Type := Bool -> (Int -> List Int -> Bool) -> Bool

def G_q91 (N_ : Nat) (b : Bool) (k0 : Int -> List Int -> Bool) : Bool :=
  (k0 0 [])

def s_q91 (N_ : Nat) : TS_q91 := G_q91 N_

abbrev TS_q53 : Type := Bool -> List Int -> (Int -> Bool) -> Bool

def G_q53 (N_ : Nat) (b : Bool) (b_1 : List Int) (k0 : Int -> Bool) : Bool :=
  (cond ((((List.length b_1) : Nat) : Int) == 0) (k0 0) (cond b (k0 (-1)) (k0 1)))

def s_q53 (N_ : Nat) : TS_q53 := G_q53 N_

abbrev TS_q119 : Type := List Int -> Int -> (List Int -> Bool) -> Bool

def st_z00_left_0 (N_ : Nat) (S_q9 : TS_q9) (m_1 : List Int) (w : Int) (s : Int) (e0 : List Int -> Bool) : (Int × List Int) -> ((Int × List Int) -> Bool) -> Bool := fun v_ K => match v_ with
  | (i, out) => (cond (decide (i < (((List.length m_1) : Nat) : Int))) ((inR i (List.length m_1)) && ((decide (0 <= s)) && ((fits .i64 (w + i)) && ((inR (w + i) (List.length out)) && ((decide ((Int.toNat (w + i)) < (List.length out))) && ((inR (w + i) (List.length out)) && ((decide ((Int.toNat (w + i)) < (List.length out))) && ((fits .i64 (w + i)) && ((fits .i64 ((w + i) + 1)) && ((inR ((w + i) + 1) (List.length (List.set out (Int.toNat (w + i)) (bitsN .or .u32 (List.getD out (Int.toNat (w + i)) 0) (IntKind.wrap .u32 (IntKind.wrap .u64 ((IntKind.wrap .u64 (List.getD m_1 (Int.toNat i) 0)) * 2 ^ (min (Int.toNat s) 64)))))))) && ((decide ((Int.toNat ((w + i) + 1)) < (List.length (List.set out (Int.toNat (w + i)) (bitsN .or .u32 (List.getD out (Int.toNat (w + i)) 0) (IntKind.wrap .u32 (IntKind.wrap .u64 ((IntKind.wrap .u64 (List.getD m_1 (Int.toNat i) 0)) * 2 ^ (min (Int.toNat s) 64))))))))) && ((fits .i64 (i + 1)) && (K ((i + 1), (List.set (List.set out (Int.toNat (w + i)) (bitsN .or .u32 (List.getD out (Int.toNat (w + i)) 0) (IntKind.wrap .u32 (IntKind.wrap .u64 ((IntKind.wrap .u64 (List.getD m_1 (Int.toNat i) 0)) * 2 ^ (min (Int.toNat s) 64)))))) (Int.toNat ((w + i) + 1)) (IntKind.wrap .u32 (Int.fdiv (IntKind.wrap .u64 ((IntKind.wrap .u64 (List.getD m_1 (Int.toNat i) 0)) * 2 ^ (min (Int.toNat s) 64))) (2 ^ 32)))))))))))))))))) (e0 out))

def G_q119 (N_ : Nat) (S_q9 : TS_q9) (m : List Int) (n : Int) (k0 : List Int -> Bool) : Bool :=
  (cond ((((List.length m) : Nat) : Int) == 0) (k0 []) ((fits .i64 (IntKind.wrap .u64 (Int.tdiv n 32))) && ((fits .i64 ((IntKind.wrap .u64 (Int.tdiv n 32)) + (((List.length m) : Nat) : Int))) && ((fits .i64 (((IntKind.wrap .u64 (Int.tdiv n 32)) + (((List.length m) : Nat) : Int)) + 1)) && ((mkOk 4 (((IntKind.wrap .u64 (Int.tdiv n 32)) + (((List.length m) : Nat) : Int)) + 1) (((IntKind.wrap .u64 (Int.tdiv n 32)) + (((List.length m) : Nat) : Int)) + 1)) && (iterG N_ (st_z00_left_0 N_ S_q9 m (IntKind.wrap .u64 (Int.tdiv n 32)) (Int.tmod n 32) (fun out_1 => (S_q9 out_1 (fun mr mr_1 => ((decide ((mr + mr_1) <= (List.length out_1))) && (k0 (List.take mr_1 (List.drop mr out_1)))))))) (0, (List.replicate (Int.toNat (((IntKind.wrap .u64 (Int.tdiv n 32)) + (((List.length m) : Nat) : Int)) + 1)) (0 : Int)))))))))

def s_q119 (N_ : Nat) : TS_q119 := G_q119 N_ (s_q9 N_)

abbrev TS_q72 : Type := Int -> Bool -> Bool -> List Int -> (Bool -> List Int -> Bool) -> Bool

def G_q72 (N_ : Nat) (S_q119 : TS_q119) (S_q50 : TS_q50) (n : Int) (b : Bool) (b_1 : Bool) (b_2 : List Int) (k0 : Bool -> List Int -> Bool) : Bool :=
  (S_q119 b_2 n (fun nsr => (S_q50 b_1 nsr b (fun cr nsr_1 => (k0 cr nsr_1)))))

def s_q72 (N_ : Nat) : TS_q72 := G_q72 N_ (s_q119 N_) (s_q50 N_)

abbrev TS_q20 : Type := Int -> Int -> Bool -> List Int -> (Bool) -> (Bool -> List Int -> Bool) -> Bool

def G_q20 (N_ : Nat) (S_q72 : TS_q72) (x : Int) (e : Int) (b : Bool) (b_1 : List Int) (k0 : Bool) (k1 : Bool -> List Int -> Bool) : Bool :=
  (cond (decide (e >= x)) k0 ((fits .i64 (x - e)) && (S_q72 (IntKind.wrap .u64 (x - e)) false b b_1 (fun cr nsr => (k1 cr nsr)))))

def s_q20 (N_ : Nat) : TS_q20 := G_q20 N_ (s_q72 N_)

abbrev TS_q120 : Type := List Int -> List Int -> (List Int -> Bool) -> Bool

def st_z00_plus_0 (N_ : Nat) (S_q9 : TS_q9) (a_1 : List Int) (b_1 : List Int) (e0 : Int -> List Int -> Bool) : (Int × Int × List Int) -> ((Int × Int × List Int) -> Bool) -> Bool := fun v_ K => match v_ with
  | (carry, i, out) => (cond (decide (i < (((List.length a_1) : Nat) : Int))) ((inR i (List.length a_1)) && (cond (decide (i < (((List.length b_1) : Nat) : Int))) ((inR i (List.length b_1)) && ((inR i (List.length out)) && ((decide ((Int.toNat i) < (List.length out))) && ((fits .i64 (i + 1)) && (K ((Int.fdiv (IntKind.wrap .u64 ((IntKind.wrap .u64 ((IntKind.wrap .u64 (List.getD a_1 (Int.toNat i) 0)) + carry)) + (IntKind.wrap .u64 (List.getD b_1 (Int.toNat i) 0)))) (2 ^ 32)), (i + 1), (List.set out (Int.toNat i) (IntKind.wrap .u32 (IntKind.wrap .u64 ((IntKind.wrap .u64 ((IntKind.wrap .u64 (List.getD a_1 (Int.toNat i) 0)) + carry)) + (IntKind.wrap .u64 (List.getD b_1 (Int.toNat i) 0)))))))))))) ((inR i (List.length out)) && ((decide ((Int.toNat i) < (List.length out))) && ((fits .i64 (i + 1)) && (K ((Int.fdiv (IntKind.wrap .u64 ((IntKind.wrap .u64 (List.getD a_1 (Int.toNat i) 0)) + carry)) (2 ^ 32)), (i + 1), (List.set out (Int.toNat i) (IntKind.wrap .u32 (IntKind.wrap .u64 ((IntKind.wrap .u64 (List.getD a_1 (Int.toNat i) 0)) + carry))))))))))) (e0 carry out))

def G_q120 (N_ : Nat) (S_q9 : TS_q9) (a : List Int) (b : List Int) (k0 : List Int -> Bool) : Bool :=
  (cond (decide ((((List.length a) : Nat) : Int) < (((List.length b) : Nat) : Int))) ((fits .i64 ((((List.length b) : Nat) : Int) + 1)) && ((mkOk 4 ((((List.length b) : Nat) : Int) + 1) ((((List.length b) : Nat) : Int) + 1)) && (iterG N_ (st_z00_plus_0 N_ S_q9 b a (fun carry_1 out_1 => ((inR (((List.length b) : Nat) : Int) (List.length out_1)) && ((decide ((Int.toNat (((List.length b) : Nat) : Int)) < (List.length out_1))) && (S_q9 (List.set out_1 (Int.toNat (((List.length b) : Nat) : Int)) (IntKind.wrap .u32 carry_1)) (fun mr mr_1 => ((decide ((mr + mr_1) <= (List.length (List.set out_1 (Int.toNat (((List.length b) : Nat) : Int)) (IntKind.wrap .u32 carry_1))))) && (k0 (List.take mr_1 (List.drop mr (List.set out_1 (Int.toNat (((List.length b) : Nat) : Int)) (IntKind.wrap .u32 carry_1)))))))))))) (0, 0, (List.replicate (Int.toNat ((((List.length b) : Nat) : Int) + 1)) (0 : Int)))))) ((fits .i64 ((((List.length a) : Nat) : Int) + 1)) && ((mkOk 4 ((((List.length a) : Nat) : Int) + 1) ((((List.length a) : Nat) : Int) + 1)) && (iterG N_ (st_z00_plus_0 N_ S_q9 a b (fun carry_2 out_2 => ((inR (((List.length a) : Nat) : Int) (List.length out_2)) && ((decide ((Int.toNat (((List.length a) : Nat) : Int)) < (List.length out_2))) && (S_q9 (List.set out_2 (Int.toNat (((List.length a) : Nat) : Int)) (IntKind.wrap .u32 carry_2)) (fun mr_2 mr_3 => ((decide ((mr_2 + mr_3) <= (List.length (List.set out_2 (Int.toNat (((List.length a) : Nat) : Int)) (IntKind.wrap .u32 carry_2))))) && (k0 (List.take mr_3 (List.drop mr_2 (List.set out_2 (Int.toNat (((List.length a) : Nat) : Int)) (IntKind.wrap .u32 carry_2)))))))))))) (0, 0, (List.replicate (Int.toNat ((((List.length a) : Nat) : Int) + 1)) (0 : Int)))))))

def s_q120 (N_ : Nat) : TS_q120 := G_q120 N_ (s_q9 N_)

abbrev TS_q86 : Type := List Int -> List Int -> (Int -> Bool) -> Bool

def st_q147 (N_ : Nat) (a_1 : List Int) (b_1 : List Int) (e0 : Int -> Bool) (e1 : Bool) : (Int) -> ((Int) -> Bool) -> Bool := fun v_ K => match v_ with
  | i => (cond (decide (i >= 0)) ((inR i (List.length a_1)) && ((inR i (List.length b_1)) && (cond (decide ((List.getD a_1 (Int.toNat i) 0) < (List.getD b_1 (Int.toNat i) 0))) (e0 (-1)) ((inR i (List.length a_1)) && ((inR i (List.length b_1)) && (cond (decide ((List.getD a_1 (Int.toNat i) 0) > (List.getD b_1 (Int.toNat i) 0))) (e0 1) ((fits .i64 (i - 1)) && (K (i - 1))))))))) e1)

def G_q86 (N_ : Nat) (a : List Int) (b : List Int) (k0 : Int -> Bool) : Bool :=
  (cond ((((List.length a) : Nat) : Int) != (((List.length b) : Nat) : Int)) (cond (decide ((((List.length a) : Nat) : Int) < (((List.length b) : Nat) : Int))) (k0 (-1)) (k0 1)) ((fits .i64 ((((List.length a) : Nat) : Int) - 1)) && (iterG N_ (st_q147 N_ a b (fun t4 => (k0 t4)) (k0 0)) ((((List.length a) : Nat) : Int) - 1))))

def s_q86 (N_ : Nat) : TS_q86 := G_q86 N_

abbrev TS_q106 : Type := List Int -> List Int -> (List Int -> Bool) -> Bool

def st_z00_minus_0 (N_ : Nat) (S_q9 : TS_q9) (a_1 : List Int) (b_1 : List Int) (e0 : List Int -> Bool) : (Int × Int × List Int) -> ((Int × Int × List Int) -> Bool) -> Bool := fun v_ K => match v_ with
  | (borrow, i, out) => (cond (decide (i < (((List.length a_1) : Nat) : Int))) (cond (decide (i < (((List.length b_1) : Nat) : Int))) ((inR i (List.length b_1)) && ((inR i (List.length a_1)) && (cond (decide ((IntKind.wrap .u64 (List.getD a_1 (Int.toNat i) 0)) < (IntKind.wrap .u64 (borrow + (IntKind.wrap .u64 (List.getD b_1 (Int.toNat i) 0)))))) ((inR i (List.length out)) && ((decide ((Int.toNat i) < (List.length out))) && ((fits .i64 (i + 1)) && (K (1, (i + 1), (List.set out (Int.toNat i) (IntKind.wrap .u32 (IntKind.wrap .u64 ((IntKind.wrap .u64 ((IntKind.wrap .u64 (List.getD a_1 (Int.toNat i) 0)) + 4294967296)) - (IntKind.wrap .u64 (borrow + (IntKind.wrap .u64 (List.getD b_1 (Int.toNat i) 0))))))))))))) ((inR i (List.length out)) && ((decide ((Int.toNat i) < (List.length out))) && ((fits .i64 (i + 1)) && (K (0, (i + 1), (List.set out (Int.toNat i) (IntKind.wrap .u32 (IntKind.wrap .u64 ((IntKind.wrap .u64 (List.getD a_1 (Int.toNat i) 0)) - (IntKind.wrap .u64 (borrow + (IntKind.wrap .u64 (List.getD b_1 (Int.toNat i) 0)))))))))))))))) ((inR i (List.length a_1)) && (cond (decide ((IntKind.wrap .u64 (List.getD a_1 (Int.toNat i) 0)) < borrow)) ((inR i (List.length out)) && ((decide ((Int.toNat i) < (List.length out))) && ((fits .i64 (i + 1)) && (K (1, (i + 1), (List.set out (Int.toNat i) (IntKind.wrap .u32 (IntKind.wrap .u64 ((IntKind.wrap .u64 ((IntKind.wrap .u64 (List.getD a_1 (Int.toNat i) 0)) + 4294967296)) - borrow))))))))) ((inR i (List.length out)) && ((decide ((Int.toNat i) < (List.length out))) && ((fits .i64 (i + 1)) && (K (0, (i + 1), (List.set out (Int.toNat i) (IntKind.wrap .u32 (IntKind.wrap .u64 ((IntKind.wrap .u64 (List.getD a_1 (Int.toNat i) 0)) - borrow)))))))))))) (e0 out))

def G_q106 (N_ : Nat) (S_q9 : TS_q9) (a : List Int) (b : List Int) (k0 : List Int -> Bool) : Bool :=
  ((mkOk 4 (((List.length a) : Nat) : Int) (((List.length a) : Nat) : Int)) && (iterG N_ (st_z00_minus_0 N_ S_q9 a b (fun out_1 => (S_q9 out_1 (fun mr mr_1 => ((decide ((mr + mr_1) <= (List.length out_1))) && (k0 (List.take mr_1 (List.drop mr out_1)))))))) (0, 0, (List.replicate (Int.toNat (((List.length a) : Nat) : Int)) (0 : Int)))))

def s_q106 (N_ : Nat) : TS_q106 := G_q106 N_ (s_q9 N_)

abbrev TS_q62 : Type := Bool -> Bool -> Bool -> List Int -> Bool -> List Int -> (Bool -> List Int -> Bool) -> Bool

def G_q62 (N_ : Nat) (S_q120 : TS_q120) (S_q50 : TS_q50) (S_q86 : TS_q86) (S_q106 : TS_q106) (turn : Bool) (b : Bool) (b_1 : Bool) (b_2 : List Int) (b_3 : Bool) (b_4 : List Int) (k0 : Bool -> List Int -> Bool) : Bool :=
  (cond (b_1 == (b_3 != turn)) (S_q120 b_2 b_4 (fun nsr => (S_q50 (b_3 != turn) nsr b (fun cr nsr_1 => (k0 cr nsr_1))))) (S_q86 b_2 b_4 (fun nr => (cond (decide (nr >= 0)) (S_q106 b_2 b_4 (fun nsr_2 => (S_q50 b_1 nsr_2 b (fun cr_1 nsr_3 => (k0 cr_1 nsr_3))))) (S_q106 b_4 b_2 (fun nsr_4 => (S_q50 (b_3 != turn) nsr_4 b (fun cr_2 nsr_5 => (k0 cr_2 nsr_5)))))))))

def s_q62 (N_ : Nat) : TS_q62 := G_q62 N_ (s_q120 N_) (s_q50 N_) (s_q86 N_) (s_q106 N_)

abbrev TS_q36 : Type := Bool -> Bool -> List Int -> Bool -> List Int -> (Bool -> List Int -> Bool) -> Bool

def G_q36 (N_ : Nat) (S_q62 : TS_q62) (b : Bool) (b_1 : Bool) (b_2 : List Int) (b_3 : Bool) (b_4 : List Int) (k0 : Bool -> List Int -> Bool) : Bool :=
  (S_q62 false b b_1 b_2 b_3 b_4 (fun cr nsr => (k0 cr nsr)))

def s_q36 (N_ : Nat) : TS_q36 := G_q36 N_ (s_q62 N_)

abbrev TS_q16 : Type := Int -> Int -> Bool -> Bool -> List Int -> (List Int -> Bool) -> (List Int -> Bool) -> (Int -> List Int -> Bool -> List Int -> Bool) -> Bool

def G_q16 (N_ : Nat) (S_q91 : TS_q91) (S_q53 : TS_q53) (S_q20 : TS_q20) (S_q36 : TS_q36) (x : Int) (y : Int) (b : Bool) (b_1 : Bool) (b_2 : List Int) (k0 : List Int -> Bool) (k1 : List Int -> Bool) (k2 : Int -> List Int -> Bool -> List Int -> Bool) : Bool :=
  (S_q91 b (fun nr nsr => (cond (nr == 0) (k0 nsr) (S_q53 b_1 b_2 (fun nr_1 => (cond (nr_1 == 0) (k1 nsr) (S_q20 x (imm false x y) b nsr (S_q20 y (imm false x y) b_1 b_2 (S_q36 false b nsr b_1 b_2 (fun cr nsr_1 => (k2 (imm false x y) nsr cr nsr_1))) (fun cr_1 nsr_2 => (S_q36 false b nsr cr_1 nsr_2 (fun cr_2 nsr_3 => (k2 (imm false x y) nsr cr_2 nsr_3))))) (fun cr_3 nsr_4 => (S_q20 y (imm false x y) b_1 b_2 (S_q36 false cr_3 nsr_4 b_1 b_2 (fun cr_4 nsr_5 => (k2 (imm false x y) nsr cr_4 nsr_5))) (fun cr_5 nsr_6 => (S_q36 false cr_3 nsr_4 cr_5 nsr_6 (fun cr_6 nsr_7 => (k2 (imm false x y) nsr cr_6 nsr_7)))))))))))))

def s_q16 (N_ : Nat) : TS_q16 := G_q16 N_ (s_q91 N_) (s_q53 N_) (s_q20 N_) (s_q36 N_)

abbrev TS_q8 : Type := Int -> Int -> Bool -> List Int -> Bool -> List Int -> (Bool) -> (Bool) -> (Int -> Bool -> List Int -> Bool) -> Bool

def G_q8 (N_ : Nat) (S_q53 : TS_q53) (S_q20 : TS_q20) (S_q36 : TS_q36) (x : Int) (y : Int) (b : Bool) (b_1 : List Int) (b_2 : Bool) (b_3 : List Int) (k0 : Bool) (k1 : Bool) (k2 : Int -> Bool -> List Int -> Bool) : Bool :=
  (S_q53 b b_1 (fun nr => (cond (nr == 0) k0 (S_q53 b_2 b_3 (fun nr_1 => (cond (nr_1 == 0) k1 (S_q20 x (imm false x y) b b_1 (S_q20 y (imm false x y) b_2 b_3 (S_q36 false b b_1 b_2 b_3 (fun cr nsr => (k2 (imm false x y) cr nsr))) (fun cr_1 nsr_1 => (S_q36 false b b_1 cr_1 nsr_1 (fun cr_2 nsr_2 => (k2 (imm false x y) cr_2 nsr_2))))) (fun cr_3 nsr_3 => (S_q20 y (imm false x y) b_2 b_3 (S_q36 false cr_3 nsr_3 b_2 b_3 (fun cr_4 nsr_4 => (k2 (imm false x y) cr_4 nsr_4))) (fun cr_5 nsr_5 => (S_q36 false cr_3 nsr_3 cr_5 nsr_5 (fun cr_6 nsr_6 => (k2 (imm false x y) cr_6 nsr_6)))))))))))))

def s_q8 (N_ : Nat) : TS_q8 := G_q8 N_ (s_q53 N_) (s_q20 N_) (s_q36 N_)

abbrev TS_q129 : Type := List Fl -> List Fl -> (Int -> Bool -> List Int -> Bool) -> Bool

def st_z03_Dot_0 (N_ : Nat) (S_q95 : TS_q95) (S_q108 : TS_q108) (S_q5 : TS_q5) (S_q16 : TS_q16) (S_q8 : TS_q8) (a_2 : List Fl) (b_2 : List Fl) (t9_1 : Int) (t4_2 : Value) (t4_3 : Int) (e0 : Int -> Bool -> List Int -> Bool) : (Int × Int × Bool × List Int) -> ((Int × Int × Bool × List Int) -> Bool) -> Bool := fun v_ K => match v_ with
  | (t10_1, s_1, b2_1, b2_2) => (cond (decide (t10_1 < t9_1)) ((inR t10_1 (List.length a_2)) && (S_q108 (List.getD a_2 (Int.toNat t10_1) none) (fun nr_4 cr_4 nsr_4 => ((inR t10_1 (List.length b_2)) && (S_q108 (List.getD b_2 (Int.toNat t10_1) none) (fun nr_5 cr_5 nsr_5 => (S_q5 nr_4 nr_5 cr_4 nsr_4 cr_5 nsr_5 (fun nr_6 cr_6 nsr_6 => (S_q8 s_1 nr_6 b2_1 b2_2 cr_6 nsr_6 ((fits .i64 (t10_1 + 1)) && (K ((t10_1 + 1), nr_6, cr_6, nsr_6))) ((fits .i64 (t10_1 + 1)) && (K ((t10_1 + 1), s_1, b2_1, b2_2))) (fun nr_7 cr_7 nsr_7 => ((fits .i64 (t10_1 + 1)) && (K ((t10_1 + 1), nr_7, cr_7, nsr_7))))))))))))) (e0 s_1 b2_1 b2_2))

def G_q129 (N_ : Nat) (S_q95 : TS_q95) (S_q108 : TS_q108) (S_q5 : TS_q5) (S_q16 : TS_q16) (S_q8 : TS_q8) (a : List Fl) (b : List Fl) (k0 : Int -> Bool -> List Int -> Bool) : Bool :=
  (S_q95 (fun nr cr => (iterG N_ (st_z03_Dot_0 N_ S_q95 S_q108 S_q5 S_q16 S_q8 a b (((List.length a) : Nat) : Int) (.pointer none) 0 (fun s_2 b2_3 b2_4 => (k0 s_2 b2_3 b2_4))) (0, nr, cr, []))))

def s_q129 (N_ : Nat) : TS_q129 := G_q129 N_ (s_q95 N_) (s_q108 N_) (s_q5 N_) (s_q16 N_) (s_q8 N_)

abbrev TS_q42 : Type := Fl -> Fl -> Fl -> Fl -> (Int -> Bool -> List Int -> Bool) -> Bool

def G_q42 (N_ : Nat) (S_q123 : TS_q123) (S_q129 : TS_q129) (q_0 : Fl) (q_1 : Fl) (q_2 : Fl) (q_3 : Fl) (k0 : Int -> Bool -> List Int -> Bool) : Bool :=
  (S_q123 q_0 q_1 q_2 q_3 (fun xsr => (S_q123 q_0 q_1 q_2 q_3 (fun xsr_1 => (S_q129 xsr xsr_1 (fun nr cr nsr => (k0 nr cr nsr)))))))

def s_q42 (N_ : Nat) : TS_q42 := G_q42 N_ (s_q123 N_) (s_q129 N_)

abbrev TS_q82 : Type := Bool -> Bool -> List Int -> (Bool -> Nat -> Nat -> Bool) -> Bool

def G_q82 (N_ : Nat) (S_q9 : TS_q9) (neg : Bool) (b : Bool) (b_1 : List Int) (k0 : Bool -> Nat -> Nat -> Bool) : Bool :=
  (S_q9 b_1 (fun mr mr_1 => (cond (neg == true) (k0 (decide (((mr_1 : Nat) : Int) > 0)) mr mr_1) (k0 false mr mr_1))))

def s_q82 (N_ : Nat) : TS_q82 := G_q82 N_ (s_q9 N_)

abbrev TS_q73 : Type := Bool -> Bool -> List Int -> (Bool -> List Int -> Bool) -> Bool

def G_q73 (N_ : Nat) (S_q82 : TS_q82) (b : Bool) (b_1 : Bool) (b_2 : List Int) (k0 : Bool -> List Int -> Bool) : Bool :=
  ((decide ((List.length ([] ++ b_2)) * 4 <= 140737488355328)) && (S_q82 (!b_1) b ([] ++ b_2) (fun cr mr mr_1 => ((decide ((mr + mr_1) <= (List.length ([] ++ b_2)))) && (k0 cr (List.take mr_1 (List.drop mr ([] ++ b_2))))))))

def s_q73 (N_ : Nat) : TS_q73 := G_q73 N_ (s_q82 N_)

abbrev TS_q49 : Type := Int -> Bool -> List Int -> (Bool -> List Int -> Bool) -> Bool

def G_q49 (N_ : Nat) (S_q73 : TS_q73) (x : Int) (b : Bool) (b_1 : List Int) (k0 : Bool -> List Int -> Bool) : Bool :=
  (S_q73 false b b_1 (fun cr nsr => (k0 cr nsr)))

def s_q49 (N_ : Nat) : TS_q49 := G_q49 N_ (s_q73 N_)

abbrev TS_q24 : Type := Int -> Int -> Bool -> List Int -> Bool -> List Int -> (Int -> Bool) -> Bool

def G_q24 (N_ : Nat) (S_q49 : TS_q49) (S_q8 : TS_q8) (S_q53 : TS_q53) (x : Int) (y : Int) (b : Bool) (b_1 : List Int) (b_2 : Bool) (b_3 : List Int) (k0 : Int -> Bool) : Bool :=
  (S_q49 y b_2 b_3 (fun cr nsr => (S_q8 x y b b_1 cr nsr (S_q53 cr nsr (fun nr => (k0 nr))) (S_q53 b b_1 (fun nr_1 => (k0 nr_1))) (fun nr_2 cr_1 nsr_1 => (S_q53 cr_1 nsr_1 (fun nr_3 => (k0 nr_3)))))))

def s_q24 (N_ : Nat) : TS_q24 := G_q24 N_ (s_q49 N_) (s_q8 N_) (s_q53 N_)

abbrev TS_q93 : Type := Fl -> Fl -> Fl -> Fl -> (Fl -> Fl -> Fl -> Fl -> Int -> Bool) -> Bool

def G_q93 (N_ : Nat) (S_q7 : TS_q7) (q_0 : Fl) (q_1 : Fl) (q_2 : Fl) (q_3 : Fl) (k0 : Fl -> Fl -> Fl -> Fl -> Int -> Bool) : Bool :=
  (S_q7 q_0 q_1 q_2 q_3 (fun cr => (cond (!cr) (k0 (some 0) (some 0) (some 0) (some 0) 4) (k0 q_0 (fneg q_1) (fneg q_2) (fneg q_3) 0))))

def s_q93 (N_ : Nat) : TS_q93 := G_q93 N_ (s_q7 N_)

abbrev TS_q39 : Type := Fl -> Fl -> Fl -> Fl -> Fl -> Fl -> Fl -> Fl -> (Bool -> Bool) -> Bool

def G_q39 (N_ : Nat) (a_0 : Fl) (a_1 : Fl) (a_2 : Fl) (a_3 : Fl) (b_0 : Fl) (b_1 : Fl) (b_2 : Fl) (b_3 : Fl) (k0 : Bool -> Bool) : Bool :=
  (cond ((feq a_0 b_0) == true) (cond ((feq a_1 b_1) == true) (cond ((feq a_2 b_2) == true) (k0 (feq a_3 b_3)) (k0 false)) (k0 false)) (k0 false))

def s_q39 (N_ : Nat) : TS_q39 := G_q39 N_

abbrev TS_q48 : Type := Int -> Int -> Int -> Int -> Int -> Int -> Int -> Int -> Int -> Int -> Int -> Int -> (Bool -> Bool) -> Bool

def G_q48 (N_ : Nat) (S_q41 : TS_q41) (S_q37 : TS_q37) (S_q88 : TS_q88) (S_q42 : TS_q42) (S_q5 : TS_q5) (S_q24 : TS_q24) (S_q93 : TS_q93) (S_q108 : TS_q108) (S_q39 : TS_q39) (x_0 : Int) (x_1 : Int) (x_2 : Int) (x_3 : Int) (y_0 : Int) (y_1 : Int) (y_2 : Int) (y_3 : Int) (z_0 : Int) (z_1 : Int) (z_2 : Int) (z_3 : Int) (k0 : Bool -> Bool) : Bool :=
  (S_q41 (fun cr => (cond (!cr) (k0 false) (S_q37 x_0 x_1 x_2 x_3 24 (fun xr xr_1 xr_2 xr_3 => (S_q37 y_0 y_1 y_2 y_3 24 (fun xr_4 xr_5 xr_6 xr_7 => (S_q88 xr xr_1 xr_2 xr_3 xr_4 xr_5 xr_6 xr_7 (fun xr_8 xr_9 xr_10 xr_11 nr => (cond (nr != 0) (k0 false) (S_q42 xr_8 xr_9 xr_10 xr_11 (fun nr_1 cr_1 nsr => (S_q42 xr xr_1 xr_2 xr_3 (fun nr_2 cr_2 nsr_1 => (S_q42 xr_4 xr_5 xr_6 xr_7 (fun nr_3 cr_3 nsr_2 => (S_q5 nr_2 nr_3 cr_2 nsr_1 cr_3 nsr_2 (fun nr_4 cr_4 nsr_3 => (S_q24 nr_1 nr_4 cr_1 nsr cr_4 nsr_3 (fun nr_5 => (cond (nr_5 != 0) (k0 false) (S_q93 xr xr_1 xr_2 xr_3 (fun xr_12 xr_13 xr_14 xr_15 nr_6 => (S_q88 xr xr_1 xr_2 xr_3 xr_12 xr_13 xr_14 xr_15 (fun xr_16 xr_17 xr_18 xr_19 nr_7 => (cond ((nr_7 != 0) == false) (cond ((!feq xr_17 (some 0)) == false) (cond ((!feq xr_18 (some 0)) == false) (cond ((!feq xr_19 (some 0)) == false) (S_q108 xr_16 (fun nr_8 cr_5 nsr_4 => (S_q42 xr xr_1 xr_2 xr_3 (fun nr_9 cr_6 nsr_5 => (S_q24 nr_8 nr_9 cr_5 nsr_4 cr_6 nsr_5 (fun nr_10 => (cond (nr_10 != 0) (k0 false) (S_q37 x_0 x_1 x_2 x_3 15 (fun xr_20 xr_21 xr_22 xr_23 => (S_q37 y_0 y_1 y_2 y_3 15 (fun xr_24 xr_25 xr_26 xr_27 => (S_q37 z_0 z_1 z_2 z_3 15 (fun xr_28 xr_29 xr_30 xr_31 => (S_q88 xr_20 xr_21 xr_22 xr_23 xr_24 xr_25 xr_26 xr_27 (fun xr_32 xr_33 xr_34 xr_35 nr_11 => (S_q88 xr_32 xr_33 xr_34 xr_35 xr_28 xr_29 xr_30 xr_31 (fun xr_36 xr_37 xr_38 xr_39 nr_12 => (S_q88 xr_24 xr_25 xr_26 xr_27 xr_28 xr_29 xr_30 xr_31 (fun xr_40 xr_41 xr_42 xr_43 nr_13 => (S_q88 xr_20 xr_21 xr_22 xr_23 xr_40 xr_41 xr_42 xr_43 (fun xr_44 xr_45 xr_46 xr_47 nr_14 => (cond ((nr_12 == 0) == true) (cond ((nr_14 == 0) == true) (S_q39 xr_36 xr_37 xr_38 xr_39 xr_44 xr_45 xr_46 xr_47 (fun cr_7 => (k0 cr_7))) (k0 false)) (k0 false))))))))))))))))))))))) (k0 false)) (k0 false)) (k0 false)) (k0 false)))))))))))))))))))))))))))

def s_q48 (N_ : Nat) : TS_q48 := G_q48 N_ (s_q41 N_) (s_q37 N_) (s_q88 N_) (s_q42 N_) (s_q5 N_) (s_q24 N_) (s_q93 N_) (s_q108 N_) (s_q39 N_)

end Go.Proofs.YtccocdgimamdhaaGreatDoor
