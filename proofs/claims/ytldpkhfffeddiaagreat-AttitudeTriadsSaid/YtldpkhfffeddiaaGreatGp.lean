/-
  THE PROGRAM's FUNCTIONS, as their meanings (written by program).
  Conditions: none.
-/
import Derived.Test.YtldpkhfffeddiaaGreatMachP
namespace Go.Proofs.YtldpkhfffeddiaaGreat
open Go Go.Mach
set_option linter.unusedVariables false

def strTab_11c1601c : List Int := [0, 1, 2, 2, 3, 3, 3, 3, 4, 4, 4, 4, 4, 4, 4, 4, 5, 5, 5, 5, 5, 5, 5, 5, 5, 5, 5, 5, 5, 5, 5, 5, 6, 6, 6, 6, 6, 6, 6, 6, 6, 6, 6, 6, 6, 6, 6, 6, 6, 6, 6, 6, 6, 6, 6, 6, 6, 6, 6, 6, 6, 6, 6, 6, 7, 7, 7, 7, 7, 7, 7, 7, 7, 7, 7, 7, 7, 7, 7, 7, 7, 7, 7, 7, 7, 7, 7, 7, 7, 7, 7, 7, 7, 7, 7, 7, 7, 7, 7, 7, 7, 7, 7, 7, 7, 7, 7, 7, 7, 7, 7, 7, 7, 7, 7, 7, 7, 7, 7, 7, 7, 7, 7, 7, 7, 7, 7, 7, 8, 8, 8, 8, 8, 8, 8, 8, 8, 8, 8, 8, 8, 8, 8, 8, 8, 8, 8, 8, 8, 8, 8, 8, 8, 8, 8, 8, 8, 8, 8, 8, 8, 8, 8, 8, 8, 8, 8, 8, 8, 8, 8, 8, 8, 8, 8, 8, 8, 8, 8, 8, 8, 8, 8, 8, 8, 8, 8, 8, 8, 8, 8, 8, 8, 8, 8, 8, 8, 8, 8, 8, 8, 8, 8, 8, 8, 8, 8, 8, 8, 8, 8, 8, 8, 8, 8, 8, 8, 8, 8, 8, 8, 8, 8, 8, 8, 8, 8, 8, 8, 8, 8, 8, 8, 8, 8, 8, 8, 8, 8, 8, 8, 8, 8, 8, 8, 8, 8, 8, 8, 8, 8, 8, 8, 8, 8, 8]

abbrev TS_q78 : Type := Nat → (Int → Bool) → Bool

def s_q78 (N_ : Nat) : TS_q78 := fun n k => k n

abbrev TS_an_of : Type := (Int → Int → Int → Bool) → Bool

def G_an_of (N_ : Nat) (k0 : Int → Int → Int → Bool) : Bool :=
  (k0 52 2047 1075)

def s_an_of (N_ : Nat) : TS_an_of := G_an_of N_

abbrev TS_q103 : Type := Int → Int → Int → (Int → Bool) → Bool

def G_q103 (N_ : Nat) (f_0 : Int) (f_1 : Int) (f_2 : Int) (k0 : Int → Bool) : Bool :=
  ((fits .i64 (f_1 + 1)) && ((decide (0 ≤ f_0)) && (k0 (IntKind.wrap .u64 ((IntKind.wrap .u64 (f_1 + 1)) * 2 ^ (min (Int.toNat f_0) 64))))))

def s_q103 (N_ : Nat) : TS_q103 := G_q103 N_

abbrev TS_q46 : Type := Int → Int → Int → (Int → Bool) → Bool

def G_q46 (N_ : Nat) (f_0 : Int) (f_1 : Int) (f_2 : Int) (k0 : Int → Bool) : Bool :=
  ((decide (0 ≤ f_0)) && (k0 (IntKind.wrap .u64 ((IntKind.wrap .u64 f_1) * 2 ^ (min (Int.toNat f_0) 64)))))

def s_q46 (N_ : Nat) : TS_q46 := G_q46 N_

abbrev TS_q42 : Type := Int → Int → Int → Int → (Bool → Bool) → Bool

def G_q42 (N_ : Nat) (S_q103 : TS_q103) (S_q46 : TS_q46) (b : Int) (f_0 : Int) (f_1 : Int) (f_2 : Int) (k0 : Bool → Bool) : Bool :=
  (S_q103 f_0 f_1 f_2 (fun (nr : Int) => (S_q46 f_0 f_1 f_2 (fun (nr_1 : Int) => (k0 (decide ((bitsN .andNot .u64 b nr) > nr_1)))))))

def s_q42 (N_ : Nat) : TS_q42 := G_q42 N_ (s_q103 N_) (s_q46 N_)

abbrev TS_q71 : Type := Int → Int → Int → (Int → Bool) → Bool

def G_q71 (N_ : Nat) (f_0 : Int) (f_1 : Int) (f_2 : Int) (k0 : Int → Bool) : Bool :=
  ((decide (0 ≤ f_0)) && (k0 (IntKind.wrap .u64 (1 * 2 ^ (min (Int.toNat f_0) 64)))))

def s_q71 (N_ : Nat) : TS_q71 := G_q71 N_

abbrev TS_q114 : Type := Int → Int → Int → (Int → Bool) → Bool

def G_q114 (N_ : Nat) (S_q46 : TS_q46) (S_q71 : TS_q71) (f_0 : Int) (f_1 : Int) (f_2 : Int) (k0 : Int → Bool) : Bool :=
  (S_q46 f_0 f_1 f_2 (fun (nr : Int) => (S_q71 f_0 f_1 f_2 (fun (nr_1 : Int) => (k0 (bitsN .or .u64 (bitsN .or .u64 nr (Int.fdiv nr_1 (2 ^ 1))) (IntKind.wrap .u64 (Int.tdiv f_0 52))))))))

def s_q114 (N_ : Nat) : TS_q114 := G_q114 N_ (s_q46 N_) (s_q71 N_)

abbrev TS_q12 : Type := Int → Int → Int → Int → (Int → Bool) → Bool

def G_q12 (N_ : Nat) (S_q42 : TS_q42) (S_q114 : TS_q114) (b : Int) (f_0 : Int) (f_1 : Int) (f_2 : Int) (k0 : Int → Bool) : Bool :=
  (S_q42 b f_0 f_1 f_2 (fun (cr : Bool) => (cond cr (S_q114 f_0 f_1 f_2 (fun (nr : Int) => (k0 nr))) (k0 b))))

def s_q12 (N_ : Nat) : TS_q12 := G_q12 N_ (s_q42 N_) (s_q114 N_)

abbrev TS_q28 : Type := Int → Int → Int → Int → (Bool → Int → Int → Bool) → Bool

def G_q28 (N_ : Nat) (S_q12 : TS_q12) (S_q103 : TS_q103) (S_q71 : TS_q71) (b : Int) (f_0 : Int) (f_1 : Int) (f_2 : Int) (k0 : Bool → Int → Int → Bool) : Bool :=
  (S_q12 b f_0 f_1 f_2 (fun (nr : Int) => (S_q103 f_0 f_1 f_2 (fun (nr_1 : Int) => ((decide (0 ≤ f_0)) && ((fits .i64 (bitsN .and .u64 (Int.fdiv nr (2 ^ (min (Int.toNat f_0) 64))) (IntKind.wrap .u64 f_1))) && (S_q71 f_0 f_1 f_2 (fun (nr_2 : Int) => (k0 ((bitsN .and .u64 nr nr_1) != 0) (bitsN .and .u64 (Int.fdiv nr (2 ^ (min (Int.toNat f_0) 64))) (IntKind.wrap .u64 f_1)) (bitsN .and .u64 nr (IntKind.wrap .u64 (nr_2 - 1))))))))))))

def s_q28 (N_ : Nat) : TS_q28 := G_q28 N_ (s_q12 N_) (s_q103 N_) (s_q71 N_)

abbrev TS_q27 : Type := Int → Int → Int → Int → (Int → Bool) → Bool

def G_q27 (N_ : Nat) (S_q28 : TS_q28) (b : Int) (f_0 : Int) (f_1 : Int) (f_2 : Int) (k0 : Int → Bool) : Bool :=
  (S_q28 b f_0 f_1 f_2 (fun (cr : Bool) (nr : Int) (nr_1 : Int) => (cond ((nr == f_1) == true) (cond (nr_1 != 0) (k0 1) (cond (nr == f_1) (k0 2) (cond ((nr == 0) == true) (cond (nr_1 == 0) (k0 3) (cond (nr == 0) (k0 4) (k0 5))) (cond (nr == 0) (k0 4) (k0 5))))) (cond (nr == f_1) (k0 2) (cond ((nr == 0) == true) (cond (nr_1 == 0) (k0 3) (cond (nr == 0) (k0 4) (k0 5))) (cond (nr == 0) (k0 4) (k0 5)))))))

def s_q27 (N_ : Nat) : TS_q27 := G_q27 N_ (s_q28 N_)

abbrev TS_q106 : Type := Nat → (Int → Bool) → Bool

def G_q106 (N_ : Nat) (S_q78 : TS_q78) (S_an_of : TS_an_of) (S_q27 : TS_q27) (x : Nat) (k0 : Int → Bool) : Bool :=
  (S_q78 x (fun (nr : Int) => (S_an_of (fun (nr_1 : Int) (nr_2 : Int) (nr_3 : Int) => (S_q27 nr nr_1 nr_2 nr_3 (fun (nr_4 : Int) => (k0 nr_4)))))))

def s_q106 (N_ : Nat) : TS_q106 := G_q106 N_ (s_q78 N_) (s_an_of N_) (s_q27 N_)

abbrev TS_q113 : Type := Nat → Nat → (Bool → Bool) → Bool

def G_q113 (N_ : Nat) (S_q78 : TS_q78) (S_an_of : TS_an_of) (S_q12 : TS_q12) (a : Nat) (b : Nat) (k0 : Bool → Bool) : Bool :=
  (S_q78 a (fun (nr : Int) => (S_an_of (fun (nr_1 : Int) (nr_2 : Int) (nr_3 : Int) => (S_q12 nr nr_1 nr_2 nr_3 (fun (nr_4 : Int) => (S_q78 b (fun (nr_5 : Int) => (S_an_of (fun (nr_6 : Int) (nr_7 : Int) (nr_8 : Int) => (S_q12 nr_5 nr_6 nr_7 nr_8 (fun (nr_9 : Int) => (k0 (nr_4 == nr_9))))))))))))))

def s_q113 (N_ : Nat) : TS_q113 := G_q113 N_ (s_q78 N_) (s_an_of N_) (s_q12 N_)

abbrev TS_q39 : Type := Int → (Fl → Bool) → Bool

def s_q39 (N_ : Nat) : TS_q39 := fun n k => k (canon n.toNat)

abbrev TS_q120 : Type := Nat → (Fl → Bool) → Bool

def G_q120 (N_ : Nat) (S_q78 : TS_q78) (S_q39 : TS_q39) (x : Nat) (k0 : Fl → Bool) : Bool :=
  (S_q78 x (fun (nr : Int) => (S_q39 (bitsN .andNot .u64 nr 9223372036854775808) (fun (xr : Fl) => (k0 xr)))))

def s_q120 (N_ : Nat) : TS_q120 := G_q120 N_ (s_q78 N_) (s_q39 N_)

abbrev TS_zl_f : Type := Int → (Fl → Bool) → Bool

def G_zl_f (N_ : Nat) (S_q39 : TS_q39) (b : Int) (k0 : Fl → Bool) : Bool :=
  (S_q39 b (fun (xr : Fl) => (k0 xr)))

def s_zl_f (N_ : Nat) : TS_zl_f := G_zl_f N_ (s_q39 N_)

abbrev TS_q117 : Type := Int → Int → Int → (Fl → Fl → Fl → Bool) → Bool

def G_q117 (N_ : Nat) (S_zl_f : TS_zl_f) (b_0 : Int) (b_1 : Int) (b_2 : Int) (k0 : Fl → Fl → Fl → Bool) : Bool :=
  (S_zl_f b_0 (fun (xr : Fl) => (S_zl_f b_1 (fun (xr_1 : Fl) => (S_zl_f b_2 (fun (xr_2 : Fl) => (k0 xr xr_1 xr_2)))))))

def s_q117 (N_ : Nat) : TS_q117 := G_q117 N_ (s_zl_f N_)

abbrev TS_q88 : Type := Fl → (Int → Bool) → Bool

def s_q88 (N_ : Nat) : TS_q88 := fun x k => k (clsF x)

abbrev TS_q14 : Type := List Fl → (Bool → Bool) → Bool

def st_an_Finite_0 (N_ : Nat) (S_q88 : TS_q88) (t6 : List Fl) (t7 : Int) (e0 : Bool → Bool) (e1 : Bool) : (Int) → ((Int) → Bool) → Bool := fun v_ K => match v_ with
  | t8 => (cond (decide (t8 < t7)) ((inR t8 (List.length t6)) && (S_q88 (List.getD t6 (Int.toNat t8) none) (fun (nr : Int) => (cond ((nr == 1) == false) (cond (nr == 2) (e0 false) ((fits .i64 (t8 + 1)) && (K (t8 + 1)))) (e0 false))))) e1)

def G_q14 (N_ : Nat) (S_q88 : TS_q88) (l : List Fl) (k0 : Bool → Bool) : Bool :=
  (iterG N_ (st_an_Finite_0 N_ S_q88 l (((List.length l) : Nat) : Int) (fun (t2 : Bool) => (k0 t2)) (k0 true)) 0)

def s_q14 (N_ : Nat) : TS_q14 := G_q14 N_ (s_q88 N_)

abbrev TS_q26 : Type := Fl → Fl → Fl → (Int → Bool) → Bool

def G_q26 (N_ : Nat) (S_q14 : TS_q14) (v_0 : Fl) (v_1 : Fl) (v_2 : Fl) (k0 : Int → Bool) : Bool :=
  (S_q14 [v_0, v_1, v_2] (fun (cr : Bool) => (cond (!cr) (k0 4) (cond ((feq v_0 (some 0)) == true) (cond ((feq v_1 (some 0)) == true) (cond (feq v_2 (some 0)) (k0 251) (k0 0)) (k0 0)) (k0 0)))))

def s_q26 (N_ : Nat) : TS_q26 := G_q26 N_ (s_q14 N_)

abbrev TS_qr_list : Type := List Fl → (Int → Bool) → Bool

def G_qr_list (N_ : Nat) (S_q14 : TS_q14) (x : List Fl) (k0 : Int → Bool) : Bool :=
  (cond (decide ((((List.length x) : Nat) : Int) > 48)) (k0 1) (S_q14 x (fun (cr : Bool) => (cond (!cr) (k0 4) (k0 0)))))

def s_qr_list (N_ : Nat) : TS_qr_list := G_qr_list N_ (s_q14 N_)

abbrev TS_m_Abs : Type := Fl → (Fl → Bool) → Bool

def s_m_Abs (N_ : Nat) : TS_m_Abs := fun x k => k (absF x)

abbrev TS_q64 : Type := Fl → Int → (Bool → Bool) → Bool

def G_q64 (N_ : Nat) (S_m_Abs : TS_m_Abs) (f : Fl) (sign : Int) (k0 : Bool → Bool) : Bool :=
  (cond (sign == 0) (S_m_Abs f (fun (xr : Fl) => (k0 (fgt xr (some 9218868437227405311))))) (cond (decide (sign < 0)) (k0 (fgt (fneg f) (some 9218868437227405311))) (k0 (fgt f (some 9218868437227405311)))))

def s_q64 (N_ : Nat) : TS_q64 := G_q64 N_ (s_m_Abs N_)

abbrev TS_q84 : Type := Fl → (Bool → Bool) → Bool

def G_q84 (N_ : Nat) (f : Fl) (k0 : Bool → Bool) : Bool :=
  (k0 (!feq f f))

def s_q84 (N_ : Nat) : TS_q84 := G_q84 N_

abbrev TS_q22 : Type := Fl → (Fl → Int → Bool) → Bool

def G_q22 (N_ : Nat) (S_m_Abs : TS_m_Abs) (x : Fl) (k0 : Fl → Int → Bool) : Bool :=
  (S_m_Abs x (fun (xr : Fl) => (cond (flt xr (some 4503599627370496)) (k0 (fmul x (some 4841369599423283200)) (-52)) (k0 x 0))))

def s_q22 (N_ : Nat) : TS_q22 := G_q22 N_ (s_m_Abs N_)

abbrev TS_q48 : Type := Fl → (Int → Bool) → Bool

def s_q48 (N_ : Nat) : TS_q48 := fun x k => match x with | some b => k b | none => false

abbrev TS_q115 : Type := Fl → (Fl → Int → Bool) → Bool

def G_q115 (N_ : Nat) (S_q64 : TS_q64) (S_q84 : TS_q84) (S_q22 : TS_q22) (S_q48 : TS_q48) (S_q39 : TS_q39) (f : Fl) (k0 : Fl → Int → Bool) : Bool :=
  (cond (feq f (some 0)) (k0 f 0) (S_q64 f 0 (fun (cr : Bool) => (cond (cr == false) (S_q84 f (fun (cr_1 : Bool) => (cond cr_1 (k0 f 0) (S_q22 f (fun (xr : Fl) (nr : Int) => (S_q48 xr (fun (nr_1 : Int) => ((fits .i64 (bitsN .and .u64 (Int.fdiv nr_1 (2 ^ 52)) 2047)) && ((fits .i64 ((bitsN .and .u64 (Int.fdiv nr_1 (2 ^ 52)) 2047) - 1023)) && ((fits .i64 (((bitsN .and .u64 (Int.fdiv nr_1 (2 ^ 52)) 2047) - 1023) + 1)) && ((fits .i64 (nr + (((bitsN .and .u64 (Int.fdiv nr_1 (2 ^ 52)) 2047) - 1023) + 1))) && (S_q39 (bitsN .or .u64 (bitsN .andNot .u64 nr_1 9218868437227405312) 4602678819172646912) (fun (xr_1 : Fl) => (k0 xr_1 (nr + (((bitsN .and .u64 (Int.fdiv nr_1 (2 ^ 52)) 2047) - 1023) + 1)))))))))))))))) (k0 f 0)))))

def s_q115 (N_ : Nat) : TS_q115 := G_q115 N_ (s_q64 N_) (s_q84 N_) (s_q22 N_) (s_q48 N_) (s_q39 N_)

abbrev TS_q41 : Type := Fl → (Fl → Int → Bool) → Bool

def G_q41 (N_ : Nat) (S_q115 : TS_q115) (f : Fl) (k0 : Fl → Int → Bool) : Bool :=
  (S_q115 f (fun (xr : Fl) (nr : Int) => (k0 xr nr)))

def s_q41 (N_ : Nat) : TS_q41 := G_q41 N_ (s_q115 N_)

abbrev TS_qr_power : Type := List Fl → (Int → Bool → Bool) → Bool

def st_qr_power_0 (N_ : Nat) (S_m_Abs : TS_m_Abs) (S_q41 : TS_q41) (x_1 : List Fl) (t9 : Int) (e0 : Fl → Bool) : (Fl × Int) → ((Fl × Int) → Bool) → Bool := fun v_ K => match v_ with
  | (most, t10) => (cond (decide (t10 < t9)) ((inR t10 (List.length x_1)) && (S_m_Abs (List.getD x_1 (Int.toNat t10) none) (fun (xr : Fl) => ((fits .i64 (t10 + 1)) && (K ((fmm true most xr), (t10 + 1))))))) (e0 most))

def G_qr_power (N_ : Nat) (S_m_Abs : TS_m_Abs) (S_q41 : TS_q41) (x : List Fl) (k0 : Int → Bool → Bool) : Bool :=
  (iterG N_ (st_qr_power_0 N_ S_m_Abs S_q41 x (((List.length x) : Nat) : Int) (fun (most_1 : Fl) => (cond (feq most_1 (some 0)) (k0 0 false) (S_q41 most_1 (fun (xr_1 : Fl) (nr : Int) => ((fits .i64 (nr - 1)) && (k0 (nr - 1) true))))))) ((some 0), 0))

def s_qr_power (N_ : Nat) : TS_qr_power := G_qr_power N_ (s_m_Abs N_) (s_q41 N_)

abbrev TS_q58 : Type := Fl → Fl → (Fl → Bool) → Bool

def G_q58 (N_ : Nat) (S_q48 : TS_q48) (S_q39 : TS_q39) (f : Fl) (sign : Fl) (k0 : Fl → Bool) : Bool :=
  (S_q48 f (fun (nr : Int) => (S_q48 sign (fun (nr_1 : Int) => (S_q39 (bitsN .or .u64 (bitsN .andNot .u64 nr 9223372036854775808) (bitsN .and .u64 nr_1 9223372036854775808)) (fun (xr : Fl) => (k0 xr)))))))

def s_q58 (N_ : Nat) : TS_q58 := G_q58 N_ (s_q48 N_) (s_q39 N_)

abbrev TS_m_Inf : Type := Int → (Fl → Bool) → Bool

def J_m_Inf_0 (N_ : Nat) (S_q39 : TS_q39) (sign : Int) (v : Int) (k0 : Fl → Bool) : Bool :=
  (S_q39 v (fun (xr : Fl) => (k0 xr)))

def G_m_Inf (N_ : Nat) (S_q39 : TS_q39) (sign : Int) (k0 : Fl → Bool) : Bool :=
  (cond (decide (sign ≥ 0)) (J_m_Inf_0 N_ S_q39 sign 9218868437227405312 k0) (J_m_Inf_0 N_ S_q39 sign 18442240474082181120 k0))

def s_m_Inf (N_ : Nat) : TS_m_Inf := G_m_Inf N_ (s_q39 N_)

abbrev TS_q112 : Type := Fl → Int → (Fl → Bool) → Bool

def J_q143 (N_ : Nat) (S_q64 : TS_q64) (S_q84 : TS_q84) (S_q22 : TS_q22) (S_q48 : TS_q48) (S_q58 : TS_q58) (S_m_Inf : TS_m_Inf) (S_q39 : TS_q39) (frac : Fl) (exp : Int) (exp_1 : Int) (x : Int) (m : Fl) (k0 : Fl → Bool) : Bool :=
  ((fits .i64 (exp_1 + 1023)) && (S_q39 (bitsN .or .u64 (bitsN .andNot .u64 x 9218868437227405312) (IntKind.wrap .u64 ((IntKind.wrap .u64 (exp_1 + 1023)) * 2 ^ 52))) (fun (xr_4 : Fl) => (k0 (fmul m xr_4)))))

def G_q112 (N_ : Nat) (S_q64 : TS_q64) (S_q84 : TS_q84) (S_q22 : TS_q22) (S_q48 : TS_q48) (S_q58 : TS_q58) (S_m_Inf : TS_m_Inf) (S_q39 : TS_q39) (frac : Fl) (exp : Int) (k0 : Fl → Bool) : Bool :=
  (cond (feq frac (some 0)) (k0 frac) (S_q64 frac 0 (fun (cr : Bool) => (cond (cr == false) (S_q84 frac (fun (cr_1 : Bool) => (cond cr_1 (k0 frac) (S_q22 frac (fun (xr : Fl) (nr : Int) => ((fits .i64 (exp + nr)) && (S_q48 xr (fun (nr_1 : Int) => ((fits .i64 (Int.fdiv nr_1 (2 ^ 52))) && ((fits .i64 ((bitsN .and .i64 (Int.fdiv nr_1 (2 ^ 52)) 2047) - 1023)) && ((fits .i64 ((exp + nr) + ((bitsN .and .i64 (Int.fdiv nr_1 (2 ^ 52)) 2047) - 1023))) && (cond (decide (((exp + nr) + ((bitsN .and .i64 (Int.fdiv nr_1 (2 ^ 52)) 2047) - 1023)) < (-1075))) (S_q58 (some 0) xr (fun (xr_1 : Fl) => (k0 xr_1))) (cond (decide (((exp + nr) + ((bitsN .and .i64 (Int.fdiv nr_1 (2 ^ 52)) 2047) - 1023)) > 1023)) (cond (flt xr (some 0)) (S_m_Inf (-1) (fun (xr_2 : Fl) => (k0 xr_2))) (S_m_Inf 1 (fun (xr_3 : Fl) => (k0 xr_3)))) (cond (decide (((exp + nr) + ((bitsN .and .i64 (Int.fdiv nr_1 (2 ^ 52)) 2047) - 1023)) < (-1022))) ((fits .i64 (((exp + nr) + ((bitsN .and .i64 (Int.fdiv nr_1 (2 ^ 52)) 2047) - 1023)) + 53)) && (J_q143 N_ S_q64 S_q84 S_q22 S_q48 S_q58 S_m_Inf S_q39 frac exp (((exp + nr) + ((bitsN .and .i64 (Int.fdiv nr_1 (2 ^ 52)) 2047) - 1023)) + 53) nr_1 (some 4368491638549381120) k0)) (J_q143 N_ S_q64 S_q84 S_q22 S_q48 S_q58 S_m_Inf S_q39 frac exp ((exp + nr) + ((bitsN .and .i64 (Int.fdiv nr_1 (2 ^ 52)) 2047) - 1023)) nr_1 (some 4607182418800017408) k0))))))))))))))) (k0 frac)))))

def s_q112 (N_ : Nat) : TS_q112 := G_q112 N_ (s_q64 N_) (s_q84 N_) (s_q22 N_) (s_q48 N_) (s_q58 N_) (s_m_Inf N_) (s_q39 N_)

abbrev TS_q59 : Type := Fl → Int → (Fl → Bool) → Bool

def G_q59 (N_ : Nat) (S_q112 : TS_q112) (frac : Fl) (exp : Int) (k0 : Fl → Bool) : Bool :=
  (S_q112 frac exp (fun (xr : Fl) => (k0 xr)))

def s_q59 (N_ : Nat) : TS_q59 := G_q59 N_ (s_q112 N_)

abbrev TS_q123 : Type := Fl → (Fl → Bool) → Bool

def s_q123 (N_ : Nat) : TS_q123 := fun x k => k (fsqrt x)

abbrev TS_q61 : Type := Fl → (Fl → Bool) → Bool

def G_q61 (N_ : Nat) (S_q123 : TS_q123) (x : Fl) (k0 : Fl → Bool) : Bool :=
  (S_q123 x (fun (xr : Fl) => (k0 xr)))

def s_q61 (N_ : Nat) : TS_q61 := G_q61 N_ (s_q123 N_)

abbrev TS_qr_scaled : Type := List Fl → Int → (Fl → List Fl → Bool) → Bool

def st_qr_scaled_0 (N_ : Nat) (S_q59 : TS_q59) (S_q61 : TS_q61) (x_1 : List Fl) (k__1 : Int) (t13 : Int) (e0 : Fl → List Fl → Bool) : (Fl × Int × List Fl) → ((Fl × Int × List Fl) → Bool) → Bool := fun v_ K => match v_ with
  | (s, t14, y) => (cond (decide (t14 < t13)) ((inR t14 (List.length x_1)) && ((fits .i64 (0 - k__1)) && (S_q59 (List.getD x_1 (Int.toNat t14) none) (0 - k__1) (fun (xr : Fl) => ((inR t14 (List.length y)) && ((decide ((Int.toNat t14) < (List.length y))) && ((inR t14 (List.length (List.set y (Int.toNat t14) xr))) && ((decide ((Int.toNat t14) < (List.length (List.set y (Int.toNat t14) xr)))) && ((inR t14 (List.length (List.set y (Int.toNat t14) xr))) && ((decide ((Int.toNat t14) < (List.length (List.set y (Int.toNat t14) xr)))) && ((fits .i64 (t14 + 1)) && (K ((fadd s (fmul (List.getD (List.set y (Int.toNat t14) xr) (Int.toNat t14) none) (List.getD (List.set y (Int.toNat t14) xr) (Int.toNat t14) none))), (t14 + 1), (List.set y (Int.toNat t14) xr)))))))))))))) (e0 s y))

def G_qr_scaled (N_ : Nat) (S_q59 : TS_q59) (S_q61 : TS_q61) (x : List Fl) (k_ : Int) (k0 : Fl → List Fl → Bool) : Bool :=
  ((mkOk 8 (((List.length x) : Nat) : Int) (((List.length x) : Nat) : Int)) && (iterG N_ (st_qr_scaled_0 N_ S_q59 S_q61 x k_ (((List.length x) : Nat) : Int) (fun (s_1 : Fl) (y_1 : List Fl) => (S_q61 s_1 (fun (xr_1 : Fl) => (k0 xr_1 y_1))))) ((some 0), 0, (List.replicate (Int.toNat (((List.length x) : Nat) : Int)) (some 0)))))

def s_qr_scaled (N_ : Nat) : TS_qr_scaled := G_qr_scaled N_ (s_q59 N_) (s_q61 N_)

abbrev TS_qr_length : Type := List Fl → (Fl → Bool) → Bool

def G_qr_length (N_ : Nat) (S_qr_power : TS_qr_power) (S_qr_scaled : TS_qr_scaled) (S_q59 : TS_q59) (x : List Fl) (k0 : Fl → Bool) : Bool :=
  (S_qr_power x (fun (nr : Int) (cr : Bool) => (cond (!cr) (k0 (some 0)) (S_qr_scaled x nr (fun (xr : Fl) (xsr : List Fl) => (S_q59 xr nr (fun (xr_1 : Fl) => (k0 xr_1))))))))

def s_qr_length (N_ : Nat) : TS_qr_length := G_qr_length N_ (s_qr_power N_) (s_qr_scaled N_) (s_q59 N_)

abbrev TS_qr_finite : Type := Fl → (Bool → Bool) → Bool

def G_qr_finite (N_ : Nat) (x : Fl) (k0 : Bool → Bool) : Bool :=
  (k0 (feq (fsub x x) (some 0)))

def s_qr_finite (N_ : Nat) : TS_qr_finite := G_qr_finite N_

abbrev TS_qr_Length : Type := List Fl → (Fl → Int → Bool) → Bool

def G_qr_Length (N_ : Nat) (S_qr_list : TS_qr_list) (S_qr_length : TS_qr_length) (S_qr_finite : TS_qr_finite) (x : List Fl) (k0 : Fl → Int → Bool) : Bool :=
  (S_qr_list x (fun (nr : Int) => (cond (nr != 0) (k0 (some 0) nr) (S_qr_length x (fun (xr : Fl) => (S_qr_finite xr (fun (cr : Bool) => (cond (!cr) (k0 (some 0) 5) (k0 xr 0)))))))))

def s_qr_Length (N_ : Nat) : TS_qr_Length := G_qr_Length N_ (s_qr_list N_) (s_qr_length N_) (s_qr_finite N_)

abbrev TS_q57 : Type := Fl → Fl → Fl → (Fl → Fl → Fl → Int → Bool) → Bool

def G_q57 (N_ : Nat) (S_qr_Length : TS_qr_Length) (v_0 : Fl) (v_1 : Fl) (v_2 : Fl) (k0 : Fl → Fl → Fl → Int → Bool) : Bool :=
  (S_qr_Length [v_0, v_1, v_2] (fun (xr : Fl) (nr : Int) => (cond (nr != 0) (k0 (some 0) (some 0) (some 0) nr) (k0 (fdiv v_0 xr) (fdiv v_1 xr) (fdiv v_2 xr) nr))))

def s_q57 (N_ : Nat) : TS_q57 := G_q57 (N_ + 24) (s_qr_Length N_)

abbrev TS_quat_finite : Type := List Fl → (Bool → Bool) → Bool

def st_quat_finite_0 (N_ : Nat) (l_1 : List Fl) (t5 : Int) (e0 : Bool → Bool) (e1 : Bool) : (Int) → ((Int) → Bool) → Bool := fun v_ K => match v_ with
  | t6 => (cond (decide (t6 < t5)) ((inR t6 (List.length l_1)) && ((inR t6 (List.length l_1)) && (cond (!feq (fsub (List.getD l_1 (Int.toNat t6) none) (List.getD l_1 (Int.toNat t6) none)) (some 0)) (e0 false) ((fits .i64 (t6 + 1)) && (K (t6 + 1)))))) e1)

def G_quat_finite (N_ : Nat) (l : List Fl) (k0 : Bool → Bool) : Bool :=
  (iterG N_ (st_quat_finite_0 N_ l (((List.length l) : Nat) : Int) (fun (t2 : Bool) => (k0 t2)) (k0 true)) 0)

def s_quat_finite (N_ : Nat) : TS_quat_finite := G_quat_finite N_

abbrev TS_quat_cross : Type := Fl → Fl → Fl → Fl → Fl → Fl → (Fl → Fl → Fl → Bool) → Bool

def G_quat_cross (N_ : Nat) (a_0 : Fl) (a_1 : Fl) (a_2 : Fl) (b_0 : Fl) (b_1 : Fl) (b_2 : Fl) (k0 : Fl → Fl → Fl → Bool) : Bool :=
  (k0 (fsub (fmul a_1 b_2) (fmul a_2 b_1)) (fsub (fmul a_2 b_0) (fmul a_0 b_2)) (fsub (fmul a_0 b_1) (fmul a_1 b_0)))

def s_quat_cross (N_ : Nat) : TS_quat_cross := G_quat_cross N_

abbrev TS_quat_vec : Type := Fl → Fl → Fl → (Fl → Fl → Fl → Int → Bool) → Bool

def G_quat_vec (N_ : Nat) (S_quat_finite : TS_quat_finite) (v_0 : Fl) (v_1 : Fl) (v_2 : Fl) (k0 : Fl → Fl → Fl → Int → Bool) : Bool :=
  (S_quat_finite [v_0, v_1, v_2] (fun (cr : Bool) => (cond (!cr) (k0 (some 0) (some 0) (some 0) 5) (k0 v_0 v_1 v_2 0))))

def s_quat_vec (N_ : Nat) : TS_quat_vec := G_quat_vec N_ (s_quat_finite N_)

abbrev TS_quat_Cross : Type := Fl → Fl → Fl → Fl → Fl → Fl → (Fl → Fl → Fl → Int → Bool) → Bool

def G_quat_Cross (N_ : Nat) (S_quat_finite : TS_quat_finite) (S_quat_cross : TS_quat_cross) (S_quat_vec : TS_quat_vec) (a_0 : Fl) (a_1 : Fl) (a_2 : Fl) (b_0 : Fl) (b_1 : Fl) (b_2 : Fl) (k0 : Fl → Fl → Fl → Int → Bool) : Bool :=
  (S_quat_finite [a_0, a_1, a_2] (fun (cr : Bool) => (cond ((!cr) == false) (S_quat_finite [b_0, b_1, b_2] (fun (cr_1 : Bool) => (cond (!cr_1) (k0 (some 0) (some 0) (some 0) 4) (S_quat_cross a_0 a_1 a_2 b_0 b_1 b_2 (fun (xr : Fl) (xr_1 : Fl) (xr_2 : Fl) => (S_quat_vec xr xr_1 xr_2 (fun (xr_3 : Fl) (xr_4 : Fl) (xr_5 : Fl) (nr : Int) => (k0 xr_3 xr_4 xr_5 nr)))))))) (k0 (some 0) (some 0) (some 0) 4))))

def s_quat_Cross (N_ : Nat) : TS_quat_Cross := G_quat_Cross N_ (s_quat_finite N_) (s_quat_cross N_) (s_quat_vec N_)

abbrev TS_q111 : Type := Fl → Fl → Fl → Fl → Fl → Fl → (Fl → Fl → Fl → Fl → Fl → Fl → Fl → Fl → Fl → Int → Bool) → Bool

def G_q111 (N_ : Nat) (S_q57 : TS_q57) (S_quat_Cross : TS_quat_Cross) (S_q26 : TS_q26) (a_0 : Fl) (a_1 : Fl) (a_2 : Fl) (b_0 : Fl) (b_1 : Fl) (b_2 : Fl) (k0 : Fl → Fl → Fl → Fl → Fl → Fl → Fl → Fl → Fl → Int → Bool) : Bool :=
  (S_q57 a_0 a_1 a_2 (fun (xr : Fl) (xr_1 : Fl) (xr_2 : Fl) (nr : Int) => (cond (nr != 0) (k0 xr xr_1 xr_2 (some 0) (some 0) (some 0) (some 0) (some 0) (some 0) nr) (S_quat_Cross xr xr_1 xr_2 b_0 b_1 b_2 (fun (xr_3 : Fl) (xr_4 : Fl) (xr_5 : Fl) (nr_1 : Int) => (cond (nr_1 != 0) (k0 xr xr_1 xr_2 (some 0) (some 0) (some 0) (some 0) (some 0) (some 0) nr_1) (S_q26 xr_3 xr_4 xr_5 (fun (nr_2 : Int) => (cond (nr_2 != 0) (k0 xr xr_1 xr_2 (some 0) (some 0) (some 0) (some 0) (some 0) (some 0) nr_2) (S_q57 xr_3 xr_4 xr_5 (fun (xr_6 : Fl) (xr_7 : Fl) (xr_8 : Fl) (nr_3 : Int) => (cond (nr_3 != 0) (k0 xr xr_1 xr_2 xr_6 xr_7 xr_8 (some 0) (some 0) (some 0) nr_3) (S_quat_Cross xr xr_1 xr_2 xr_6 xr_7 xr_8 (fun (xr_9 : Fl) (xr_10 : Fl) (xr_11 : Fl) (nr_4 : Int) => (k0 xr xr_1 xr_2 xr_6 xr_7 xr_8 xr_9 xr_10 xr_11 nr_4)))))))))))))))

def s_q111 (N_ : Nat) : TS_q111 := G_q111 N_ (s_q57 N_) (s_quat_Cross N_) (s_q26 N_)

abbrev TS_q52 : Type := Fl → Bool → (Bool → Bool) → Bool

def G_q52 (N_ : Nat) (S_q64 : TS_q64) (x : Fl) (b : Bool) (k0 : Bool → Bool) : Bool :=
  (cond ((!feq x x) == false) (S_q64 x 0 (fun (cr : Bool) => (cond cr (k0 true) (k0 b)))) (k0 true))

def s_q52 (N_ : Nat) : TS_q52 := G_q52 N_ (s_q64 N_)

abbrev TS_q36 : Type := Fl → Fl → Bool → (Fl → Bool → Bool) → Bool

def G_q36 (N_ : Nat) (S_q52 : TS_q52) (a : Fl) (b : Fl) (b_1 : Bool) (k0 : Fl → Bool → Bool) : Bool :=
  (S_q52 (fmul a b) b_1 (fun (cr : Bool) => (k0 (fmul a b) cr)))

def s_q36 (N_ : Nat) : TS_q36 := G_q36 N_ (s_q52 N_)

abbrev TS_q81 : Type := Bool → (Bool) → Bool

def G_q81 (N_ : Nat) (b : Bool) (k0 : Bool) : Bool :=
  k0

def s_q81 (N_ : Nat) : TS_q81 := G_q81 N_

abbrev TS_matrix_size : Type := Int → (Bool → Bool) → Bool

def G_matrix_size (N_ : Nat) (n : Int) (k0 : Bool → Bool) : Bool :=
  (cond ((decide (n ≥ 0)) == true) (k0 (decide (n ≤ 12))) (k0 false))

def s_matrix_size (N_ : Nat) : TS_matrix_size := G_matrix_size N_

abbrev TS_matrix_Check : Type := Int → Int → List Fl → (Int → Bool) → Bool

def G_matrix_Check (N_ : Nat) (S_matrix_size : TS_matrix_size) (S_q14 : TS_q14) (m_0 : Int) (m_1 : Int) (m_2 : List Fl) (k0 : Int → Bool) : Bool :=
  (S_matrix_size m_0 (fun (cr : Bool) => (cond ((!cr) == false) (S_matrix_size m_1 (fun (cr_1 : Bool) => (cond (!cr_1) (k0 1) ((fits .i64 (m_0 * m_1)) && (cond ((((List.length m_2) : Nat) : Int) != (m_0 * m_1)) (k0 3) (S_q14 m_2 (fun (cr_2 : Bool) => (cond (!cr_2) (k0 4) (k0 0))))))))) (k0 1))))

def s_matrix_Check (N_ : Nat) : TS_matrix_Check := G_matrix_Check N_ (s_matrix_size N_) (s_q14 N_)

abbrev TS_quat_From_1_p0r : Type := Int → Int → Int → Int → List Fl → (Fl → Bool) → Bool

def G_quat_From_1_p0r (N_ : Nat) (i : Int) (j : Int) (b : Int) (b_1 : Int) (b_2 : List Fl) (k0 : Fl → Bool) : Bool :=
  ((fits .i64 (3 * i)) && ((fits .i64 ((3 * i) + j)) && ((inR ((3 * i) + j) (List.length b_2)) && (k0 (List.getD b_2 (Int.toNat ((3 * i) + j)) none)))))

def s_quat_From_1_p0r (N_ : Nat) : TS_quat_From_1_p0r := G_quat_From_1_p0r N_

abbrev TS_quat_good_o1 : Type := Fl → Fl → Fl → Fl → (Bool → Bool) → Bool

def G_quat_good_o1 (N_ : Nat) (S_quat_finite : TS_quat_finite) (qs_0 : Fl) (qs_1 : Fl) (qs_2 : Fl) (qs_3 : Fl) (k0 : Bool → Bool) : Bool :=
  (S_quat_finite [qs_0, qs_1, qs_2, qs_3] (fun (cr : Bool) => (cond (!cr) (k0 false) (k0 true))))

def s_quat_good_o1 (N_ : Nat) : TS_quat_good_o1 := G_quat_good_o1 (N_ + 24) (s_quat_finite N_)

abbrev TS_quat_told : Type := Fl → Fl → Fl → Fl → (Fl → Fl → Fl → Fl → Int → Bool) → Bool

def G_quat_told (N_ : Nat) (S_quat_good_o1 : TS_quat_good_o1) (q_0 : Fl) (q_1 : Fl) (q_2 : Fl) (q_3 : Fl) (k0 : Fl → Fl → Fl → Fl → Int → Bool) : Bool :=
  (S_quat_good_o1 q_0 q_1 q_2 q_3 (fun (cr : Bool) => (cond (!cr) (k0 (some 0) (some 0) (some 0) (some 0) 5) (k0 q_0 q_1 q_2 q_3 0))))

def s_quat_told (N_ : Nat) : TS_quat_told := G_quat_told N_ (s_quat_good_o1 N_)

abbrev TS_quat_four : Type := Fl → Fl → Fl → Fl → (Bool) → Bool

def G_quat_four (N_ : Nat) (q_0 : Fl) (q_1 : Fl) (q_2 : Fl) (q_3 : Fl) (k0 : Bool) : Bool :=
  k0

def s_quat_four (N_ : Nat) : TS_quat_four := G_quat_four N_

abbrev TS_quat_quat : Type := Fl → Fl → Fl → Fl → (Bool) → Bool

def G_quat_quat (N_ : Nat) (l_0 : Fl) (l_1 : Fl) (l_2 : Fl) (l_3 : Fl) (k0 : Bool) : Bool :=
  k0

def s_quat_quat (N_ : Nat) : TS_quat_quat := G_quat_quat N_

abbrev TS_quat_Unit : Type := Fl → Fl → Fl → Fl → (Fl → Fl → Fl → Fl → Int → Bool) → Bool

def G_quat_Unit (N_ : Nat) (S_quat_good_o1 : TS_quat_good_o1) (S_quat_four : TS_quat_four) (S_m_Abs : TS_m_Abs) (S_q41 : TS_q41) (S_q59 : TS_q59) (S_q61 : TS_q61) (S_quat_quat : TS_quat_quat) (q_0 : Fl) (q_1 : Fl) (q_2 : Fl) (q_3 : Fl) (k0 : Fl → Fl → Fl → Fl → Int → Bool) : Bool :=
  (S_quat_good_o1 q_0 q_1 q_2 q_3 (fun (cr : Bool) => (cond (!cr) (k0 (some 0) (some 0) (some 0) (some 0) 4) (S_quat_four q_0 q_1 q_2 q_3 (S_m_Abs q_0 (fun (xr : Fl) => (S_m_Abs q_1 (fun (xr_1 : Fl) => (S_m_Abs q_2 (fun (xr_2 : Fl) => (S_m_Abs q_3 (fun (xr_3 : Fl) => (cond (feq (fmm true (fmm true (fmm true (fmm true (some 0) xr) xr_1) xr_2) xr_3) (some 0)) (k0 (some 0) (some 0) (some 0) (some 0) 120) (S_q41 (fmm true (fmm true (fmm true (fmm true (some 0) xr) xr_1) xr_2) xr_3) (fun (xr_4 : Fl) (nr : Int) => ((fits .i64 (1 - nr)) && (S_q59 q_0 (1 - nr) (fun (xr_5 : Fl) => ((fits .i64 (1 - nr)) && (S_q59 q_1 (1 - nr) (fun (xr_6 : Fl) => ((fits .i64 (1 - nr)) && (S_q59 q_2 (1 - nr) (fun (xr_7 : Fl) => ((fits .i64 (1 - nr)) && (S_q59 q_3 (1 - nr) (fun (xr_8 : Fl) => (S_q61 (fadd (fadd (fadd (fadd (some 0) (fmul xr_5 xr_5)) (fmul xr_6 xr_6)) (fmul xr_7 xr_7)) (fmul xr_8 xr_8)) (fun (xr_9 : Fl) => (S_quat_quat (fdiv xr_5 xr_9) (fdiv xr_6 xr_9) (fdiv xr_7 xr_9) (fdiv xr_8 xr_9) (k0 (fdiv xr_5 xr_9) (fdiv xr_6 xr_9) (fdiv xr_7 xr_9) (fdiv xr_8 xr_9) 0)))))))))))))))))))))))))))))))

def s_quat_Unit (N_ : Nat) : TS_quat_Unit := G_quat_Unit (N_ + 24) (s_quat_good_o1 N_) (s_quat_four N_) (s_m_Abs N_) (s_q41 N_) (s_q59 N_) (s_q61 N_) (s_quat_quat N_)

abbrev TS_quat_From : Type := Int → Int → List Fl → (Fl → Fl → Fl → Fl → Int → Bool) → Bool

def J_quat_From_0 (N_ : Nat) (S_matrix_Check : TS_matrix_Check) (S_quat_From_1_p0r : TS_quat_From_1_p0r) (S_quat_finite : TS_quat_finite) (S_quat_told : TS_quat_told) (S_quat_Unit : TS_quat_Unit) (m_0 : Int) (m_1 : Int) (m_2 : List Fl) (k_ : Fl) (k__1 : Fl) (k__2 : Fl) (k__3 : Fl) (k0 : Fl → Fl → Fl → Fl → Int → Bool) : Bool :=
  (S_quat_told k_ k__1 k__2 k__3 (fun (xr_15 : Fl) (xr_16 : Fl) (xr_17 : Fl) (xr_18 : Fl) (nr_1 : Int) => (cond (nr_1 != 0) (k0 xr_15 xr_16 xr_17 xr_18 nr_1) (S_quat_Unit k_ k__1 k__2 k__3 (fun (xr_19 : Fl) (xr_20 : Fl) (xr_21 : Fl) (xr_22 : Fl) (nr_2 : Int) => (k0 xr_19 xr_20 xr_21 xr_22 nr_2))))))

def G_quat_From (N_ : Nat) (S_matrix_Check : TS_matrix_Check) (S_quat_From_1_p0r : TS_quat_From_1_p0r) (S_quat_finite : TS_quat_finite) (S_quat_told : TS_quat_told) (S_quat_Unit : TS_quat_Unit) (m_0 : Int) (m_1 : Int) (m_2 : List Fl) (k0 : Fl → Fl → Fl → Fl → Int → Bool) : Bool :=
  (S_matrix_Check m_0 m_1 m_2 (fun (nr : Int) => (cond (nr != 0) (k0 (some 0) (some 0) (some 0) (some 0) nr) (cond ((m_0 != 3) == false) (cond (m_1 != 3) (k0 (some 0) (some 0) (some 0) (some 0) 3) (S_quat_From_1_p0r 0 0 m_0 m_1 m_2 (fun (xr : Fl) => (S_quat_From_1_p0r 1 1 m_0 m_1 m_2 (fun (xr_1 : Fl) => (S_quat_From_1_p0r 2 2 m_0 m_1 m_2 (fun (xr_2 : Fl) => (S_quat_finite [(fadd (fadd xr xr_1) xr_2)] (fun (cr : Bool) => (cond (!cr) (k0 (some 0) (some 0) (some 0) (some 0) 5) (S_quat_From_1_p0r 2 1 m_0 m_1 m_2 (fun (xr_3 : Fl) => (S_quat_From_1_p0r 1 2 m_0 m_1 m_2 (fun (xr_4 : Fl) => (S_quat_From_1_p0r 0 2 m_0 m_1 m_2 (fun (xr_5 : Fl) => (S_quat_From_1_p0r 2 0 m_0 m_1 m_2 (fun (xr_6 : Fl) => (S_quat_From_1_p0r 1 0 m_0 m_1 m_2 (fun (xr_7 : Fl) => (S_quat_From_1_p0r 0 1 m_0 m_1 m_2 (fun (xr_8 : Fl) => (S_quat_From_1_p0r 0 1 m_0 m_1 m_2 (fun (xr_9 : Fl) => (S_quat_From_1_p0r 1 0 m_0 m_1 m_2 (fun (xr_10 : Fl) => (S_quat_From_1_p0r 0 2 m_0 m_1 m_2 (fun (xr_11 : Fl) => (S_quat_From_1_p0r 2 0 m_0 m_1 m_2 (fun (xr_12 : Fl) => (S_quat_From_1_p0r 1 2 m_0 m_1 m_2 (fun (xr_13 : Fl) => (S_quat_From_1_p0r 2 1 m_0 m_1 m_2 (fun (xr_14 : Fl) => (cond (feq (fmm true (fmm true (fmm true (fadd (fadd xr xr_1) xr_2) xr) xr_1) xr_2) (fadd (fadd xr xr_1) xr_2)) (J_quat_From_0 N_ S_matrix_Check S_quat_From_1_p0r S_quat_finite S_quat_told S_quat_Unit m_0 m_1 m_2 (fadd (some 4607182418800017408) (fadd (fadd xr xr_1) xr_2)) (fsub xr_3 xr_4) (fsub xr_5 xr_6) (fsub xr_7 xr_8) k0) (cond (feq (fmm true (fmm true (fmm true (fadd (fadd xr xr_1) xr_2) xr) xr_1) xr_2) xr) (J_quat_From_0 N_ S_matrix_Check S_quat_From_1_p0r S_quat_finite S_quat_told S_quat_Unit m_0 m_1 m_2 (fsub xr_3 xr_4) (fsub (fsub (fadd (some 4607182418800017408) xr) xr_1) xr_2) (fadd xr_9 xr_10) (fadd xr_11 xr_12) k0) (cond (feq (fmm true (fmm true (fmm true (fadd (fadd xr xr_1) xr_2) xr) xr_1) xr_2) xr_1) (J_quat_From_0 N_ S_matrix_Check S_quat_From_1_p0r S_quat_finite S_quat_told S_quat_Unit m_0 m_1 m_2 (fsub xr_5 xr_6) (fadd xr_9 xr_10) (fsub (fadd (fsub (some 4607182418800017408) xr) xr_1) xr_2) (fadd xr_13 xr_14) k0) (J_quat_From_0 N_ S_matrix_Check S_quat_From_1_p0r S_quat_finite S_quat_told S_quat_Unit m_0 m_1 m_2 (fsub xr_7 xr_8) (fadd xr_11 xr_12) (fadd xr_13 xr_14) (fadd (fsub (fsub (some 4607182418800017408) xr) xr_1) xr_2) k0)))))))))))))))))))))))))))))))))))))) (k0 (some 0) (some 0) (some 0) (some 0) 3)))))

def s_quat_From (N_ : Nat) : TS_quat_From := G_quat_From N_ (s_matrix_Check N_) (s_quat_From_1_p0r N_) (s_quat_finite N_) (s_quat_told N_) (s_quat_Unit N_)

abbrev TS_q80 : Type := Fl → Fl → Fl → Fl → Fl → Fl → Fl → Fl → Fl → Fl → Fl → Fl → (Fl → Fl → Fl → Fl → Int → Bool) → Bool

def G_q80 (N_ : Nat) (S_q26 : TS_q26) (S_q111 : TS_q111) (S_q36 : TS_q36) (S_q52 : TS_q52) (S_q81 : TS_q81) (S_quat_From : TS_quat_From) (a_0 : Fl) (a_1 : Fl) (a_2 : Fl) (b_0 : Fl) (b_1 : Fl) (b_2 : Fl) (seenA_0 : Fl) (seenA_1 : Fl) (seenA_2 : Fl) (seenB_0 : Fl) (seenB_1 : Fl) (seenB_2 : Fl) (k0 : Fl → Fl → Fl → Fl → Int → Bool) : Bool :=
  (S_q26 a_0 a_1 a_2 (fun (nr : Int) => (cond (nr != 0) (k0 (some 0) (some 0) (some 0) (some 0) nr) (S_q26 b_0 b_1 b_2 (fun (nr_1 : Int) => (cond (nr_1 != 0) (k0 (some 0) (some 0) (some 0) (some 0) nr_1) (S_q26 seenA_0 seenA_1 seenA_2 (fun (nr_2 : Int) => (cond (nr_2 != 0) (k0 (some 0) (some 0) (some 0) (some 0) nr_2) (S_q26 seenB_0 seenB_1 seenB_2 (fun (nr_3 : Int) => (cond (nr_3 != 0) (k0 (some 0) (some 0) (some 0) (some 0) nr_3) (S_q111 a_0 a_1 a_2 b_0 b_1 b_2 (fun (xr : Fl) (xr_1 : Fl) (xr_2 : Fl) (xr_3 : Fl) (xr_4 : Fl) (xr_5 : Fl) (xr_6 : Fl) (xr_7 : Fl) (xr_8 : Fl) (nr_4 : Int) => (cond (nr_4 != 0) (k0 (some 0) (some 0) (some 0) (some 0) nr_4) (S_q111 seenA_0 seenA_1 seenA_2 seenB_0 seenB_1 seenB_2 (fun (xr_9 : Fl) (xr_10 : Fl) (xr_11 : Fl) (xr_12 : Fl) (xr_13 : Fl) (xr_14 : Fl) (xr_15 : Fl) (xr_16 : Fl) (xr_17 : Fl) (nr_5 : Int) => (cond (nr_5 != 0) (k0 (some 0) (some 0) (some 0) (some 0) nr_5) (S_q36 xr xr_9 false (fun (xr_18 : Fl) (cr : Bool) => (S_q36 xr_3 xr_12 cr (fun (xr_19 : Fl) (cr_1 : Bool) => (S_q52 (fadd xr_18 xr_19) cr_1 (fun (cr_2 : Bool) => (S_q36 xr_6 xr_15 cr_2 (fun (xr_20 : Fl) (cr_3 : Bool) => (S_q52 (fadd (fadd xr_18 xr_19) xr_20) cr_3 (fun (cr_4 : Bool) => (S_q36 xr xr_10 cr_4 (fun (xr_21 : Fl) (cr_5 : Bool) => (S_q36 xr_3 xr_13 cr_5 (fun (xr_22 : Fl) (cr_6 : Bool) => (S_q52 (fadd xr_21 xr_22) cr_6 (fun (cr_7 : Bool) => (S_q36 xr_6 xr_16 cr_7 (fun (xr_23 : Fl) (cr_8 : Bool) => (S_q52 (fadd (fadd xr_21 xr_22) xr_23) cr_8 (fun (cr_9 : Bool) => (S_q36 xr xr_11 cr_9 (fun (xr_24 : Fl) (cr_10 : Bool) => (S_q36 xr_3 xr_14 cr_10 (fun (xr_25 : Fl) (cr_11 : Bool) => (S_q52 (fadd xr_24 xr_25) cr_11 (fun (cr_12 : Bool) => (S_q36 xr_6 xr_17 cr_12 (fun (xr_26 : Fl) (cr_13 : Bool) => (S_q52 (fadd (fadd xr_24 xr_25) xr_26) cr_13 (fun (cr_14 : Bool) => (S_q36 xr_1 xr_9 cr_14 (fun (xr_27 : Fl) (cr_15 : Bool) => (S_q36 xr_4 xr_12 cr_15 (fun (xr_28 : Fl) (cr_16 : Bool) => (S_q52 (fadd xr_27 xr_28) cr_16 (fun (cr_17 : Bool) => (S_q36 xr_7 xr_15 cr_17 (fun (xr_29 : Fl) (cr_18 : Bool) => (S_q52 (fadd (fadd xr_27 xr_28) xr_29) cr_18 (fun (cr_19 : Bool) => (S_q36 xr_1 xr_10 cr_19 (fun (xr_30 : Fl) (cr_20 : Bool) => (S_q36 xr_4 xr_13 cr_20 (fun (xr_31 : Fl) (cr_21 : Bool) => (S_q52 (fadd xr_30 xr_31) cr_21 (fun (cr_22 : Bool) => (S_q36 xr_7 xr_16 cr_22 (fun (xr_32 : Fl) (cr_23 : Bool) => (S_q52 (fadd (fadd xr_30 xr_31) xr_32) cr_23 (fun (cr_24 : Bool) => (S_q36 xr_1 xr_11 cr_24 (fun (xr_33 : Fl) (cr_25 : Bool) => (S_q36 xr_4 xr_14 cr_25 (fun (xr_34 : Fl) (cr_26 : Bool) => (S_q52 (fadd xr_33 xr_34) cr_26 (fun (cr_27 : Bool) => (S_q36 xr_7 xr_17 cr_27 (fun (xr_35 : Fl) (cr_28 : Bool) => (S_q52 (fadd (fadd xr_33 xr_34) xr_35) cr_28 (fun (cr_29 : Bool) => (S_q36 xr_2 xr_9 cr_29 (fun (xr_36 : Fl) (cr_30 : Bool) => (S_q36 xr_5 xr_12 cr_30 (fun (xr_37 : Fl) (cr_31 : Bool) => (S_q52 (fadd xr_36 xr_37) cr_31 (fun (cr_32 : Bool) => (S_q36 xr_8 xr_15 cr_32 (fun (xr_38 : Fl) (cr_33 : Bool) => (S_q52 (fadd (fadd xr_36 xr_37) xr_38) cr_33 (fun (cr_34 : Bool) => (S_q36 xr_2 xr_10 cr_34 (fun (xr_39 : Fl) (cr_35 : Bool) => (S_q36 xr_5 xr_13 cr_35 (fun (xr_40 : Fl) (cr_36 : Bool) => (S_q52 (fadd xr_39 xr_40) cr_36 (fun (cr_37 : Bool) => (S_q36 xr_8 xr_16 cr_37 (fun (xr_41 : Fl) (cr_38 : Bool) => (S_q52 (fadd (fadd xr_39 xr_40) xr_41) cr_38 (fun (cr_39 : Bool) => (S_q36 xr_2 xr_11 cr_39 (fun (xr_42 : Fl) (cr_40 : Bool) => (S_q36 xr_5 xr_14 cr_40 (fun (xr_43 : Fl) (cr_41 : Bool) => (S_q52 (fadd xr_42 xr_43) cr_41 (fun (cr_42 : Bool) => (S_q36 xr_8 xr_17 cr_42 (fun (xr_44 : Fl) (cr_43 : Bool) => (S_q52 (fadd (fadd xr_42 xr_43) xr_44) cr_43 (fun (cr_44 : Bool) => (S_q81 cr_44 (cond cr_44 (k0 (some 0) (some 0) (some 0) (some 0) 5) (S_quat_From 3 3 ((((((((([] ++ [(fadd (fadd xr_18 xr_19) xr_20)]) ++ [(fadd (fadd xr_21 xr_22) xr_23)]) ++ [(fadd (fadd xr_24 xr_25) xr_26)]) ++ [(fadd (fadd xr_27 xr_28) xr_29)]) ++ [(fadd (fadd xr_30 xr_31) xr_32)]) ++ [(fadd (fadd xr_33 xr_34) xr_35)]) ++ [(fadd (fadd xr_36 xr_37) xr_38)]) ++ [(fadd (fadd xr_39 xr_40) xr_41)]) ++ [(fadd (fadd xr_42 xr_43) xr_44)]) (fun (xr_45 : Fl) (xr_46 : Fl) (xr_47 : Fl) (xr_48 : Fl) (nr_6 : Int) => (k0 xr_45 xr_46 xr_47 xr_48 nr_6)))))))))))))))))))))))))))))))))))))))))))))))))))))))))))))))))))))))))))))))))))))))))))))))))))))))))))))))))

def s_q80 (N_ : Nat) : TS_q80 := G_q80 (N_ + 24) (s_q26 N_) (s_q111 N_) (s_q36 N_) (s_q52 N_) (s_q81 N_) (s_quat_From N_)

abbrev TS_q108 : Type := Fl → (Int → Bool) → Bool

def G_q108 (N_ : Nat) (S_q48 : TS_q48) (x : Fl) (k0 : Int → Bool) : Bool :=
  (cond (!feq x x) (k0 9221120237041090561) (S_q48 x (fun (nr : Int) => (k0 nr))))

def s_q108 (N_ : Nat) : TS_q108 := G_q108 N_ (s_q48 N_)

abbrev TS_q93 : Type := Fl → (Bool → Int → Int → Bool) → Bool

def G_q93 (N_ : Nat) (S_q108 : TS_q108) (x : Fl) (k0 : Bool → Int → Int → Bool) : Bool :=
  (S_q108 x (fun (nr : Int) => ((fits .i64 (Int.tmod (Int.fdiv nr (2 ^ 52)) 2048)) && (k0 ((Int.fdiv nr (2 ^ 63)) == 1) (Int.tmod (Int.fdiv nr (2 ^ 52)) 2048) (Int.tmod nr 4503599627370496)))))

def s_q93 (N_ : Nat) : TS_q93 := G_q93 N_ (s_q108 N_)

abbrev TS_q67 : Type := Int → Int → Int → (Int → Bool) → Bool

def G_q67 (N_ : Nat) (exp : Int) (frac : Int) (most : Int) (k0 : Int → Bool) : Bool :=
  (cond ((exp == most) == true) (cond (frac != 0) (k0 1) (cond (exp == most) (k0 2) (cond ((exp == 0) == true) (cond (frac == 0) (k0 3) (cond (exp == 0) (k0 4) (k0 5))) (cond (exp == 0) (k0 4) (k0 5))))) (cond (exp == most) (k0 2) (cond ((exp == 0) == true) (cond (frac == 0) (k0 3) (cond (exp == 0) (k0 4) (k0 5))) (cond (exp == 0) (k0 4) (k0 5)))))

def s_q67 (N_ : Nat) : TS_q67 := G_q67 N_

abbrev TS_q92 : Type := Fl → (Int → Bool) → Bool

def G_q92 (N_ : Nat) (S_q93 : TS_q93) (S_q67 : TS_q67) (x : Fl) (k0 : Int → Bool) : Bool :=
  (S_q93 x (fun (cr : Bool) (nr : Int) (nr_1 : Int) => (S_q67 nr nr_1 2047 (fun (nr_2 : Int) => (k0 nr_2)))))

def s_q92 (N_ : Nat) : TS_q92 := G_q92 N_ (s_q93 N_) (s_q67 N_)

abbrev TS_q9 : Type := Fl → (Bool → Bool) → Bool

def G_q9 (N_ : Nat) (S_q92 : TS_q92) (x : Fl) (k0 : Bool → Bool) : Bool :=
  (S_q92 x (fun (nr : Int) => (k0 (decide (nr > 2)))))

def s_q9 (N_ : Nat) : TS_q9 := G_q9 N_ (s_q92 N_)

abbrev TS_q11 : Type := List Fl → (Bool → Bool) → Bool

def st_q145 (N_ : Nat) (S_q9 : TS_q9) (t5 : List Fl) (t6 : Int) (e0 : Bool → Bool) (e1 : Bool) : (Int) → ((Int) → Bool) → Bool := fun v_ K => match v_ with
  | t7 => (cond (decide (t7 < t6)) ((inR t7 (List.length t5)) && (S_q9 (List.getD t5 (Int.toNat t7) none) (fun (cr : Bool) => (cond (!cr) (e0 false) ((fits .i64 (t7 + 1)) && (K (t7 + 1))))))) e1)

def G_q11 (N_ : Nat) (S_q9 : TS_q9) (l : List Fl) (k0 : Bool → Bool) : Bool :=
  (iterG N_ (st_q145 N_ S_q9 l (((List.length l) : Nat) : Int) (fun (t2 : Bool) => (k0 t2)) (k0 true)) 0)

def s_q11 (N_ : Nat) : TS_q11 := G_q11 N_ (s_q9 N_)

abbrev TS_q15 : Type := Fl → Fl → Fl → (Bool → Bool) → Bool

def G_q15 (N_ : Nat) (S_q11 : TS_q11) (v_0 : Fl) (v_1 : Fl) (v_2 : Fl) (k0 : Bool → Bool) : Bool :=
  (S_q11 [v_0, v_1, v_2] (fun (cr : Bool) => (k0 cr)))

def s_q15 (N_ : Nat) : TS_q15 := G_q15 N_ (s_q11 N_)

abbrev TS_q21 : Type := Fl → Fl → Fl → (Int → Bool) → Bool

def G_q21 (N_ : Nat) (S_q15 : TS_q15) (v_0 : Fl) (v_1 : Fl) (v_2 : Fl) (k0 : Int → Bool) : Bool :=
  (S_q15 v_0 v_1 v_2 (fun (cr : Bool) => (cond (!cr) (k0 4) (cond ((feq v_0 (some 0)) == true) (cond ((feq v_1 (some 0)) == true) (cond (feq v_2 (some 0)) (k0 251) (k0 0)) (k0 0)) (k0 0)))))

def s_q21 (N_ : Nat) : TS_q21 := G_q21 N_ (s_q15 N_)

abbrev TS_q107 : Type := List Fl → (Int → Bool) → Bool

def G_q107 (N_ : Nat) (S_q11 : TS_q11) (x : List Fl) (k0 : Int → Bool) : Bool :=
  (cond (decide ((((List.length x) : Nat) : Int) > 48)) (k0 1) (S_q11 x (fun (cr : Bool) => (cond (!cr) (k0 4) (k0 0)))))

def s_q107 (N_ : Nat) : TS_q107 := G_q107 N_ (s_q11 N_)

abbrev TS_q65 : Type := List Fl → (Int → Bool → Bool) → Bool

def st_z10_Power_0 (N_ : Nat) (S_m_Abs : TS_m_Abs) (S_q41 : TS_q41) (x_1 : List Fl) (e0 : Fl → Bool) : (Fl × Int) → ((Fl × Int) → Bool) → Bool := fun v_ K => match v_ with
  | (m, i) => (cond (decide (i < (((List.length x_1) : Nat) : Int))) ((inR i (List.length x_1)) && (S_m_Abs (List.getD x_1 (Int.toNat i) none) (fun (xr : Fl) => ((fits .i64 (i + 1)) && (K ((fmm true m xr), (i + 1))))))) (e0 m))

def G_q65 (N_ : Nat) (S_m_Abs : TS_m_Abs) (S_q41 : TS_q41) (x : List Fl) (k0 : Int → Bool → Bool) : Bool :=
  (iterG N_ (st_z10_Power_0 N_ S_m_Abs S_q41 x (fun (m_1 : Fl) => (cond (feq m_1 (some 0)) (k0 0 false) (S_q41 m_1 (fun (xr_1 : Fl) (nr : Int) => ((fits .i64 (nr - 1)) && (k0 (nr - 1) true))))))) ((some 0), 0))

def s_q65 (N_ : Nat) : TS_q65 := G_q65 N_ (s_m_Abs N_) (s_q41 N_)

abbrev TS_q60 : Type := (Bool) → Bool

def G_q60 (N_ : Nat) (k0 : Bool) : Bool :=
  k0

def s_q60 (N_ : Nat) : TS_q60 := G_q60 N_

abbrev TS_q40 : Type := (Bool) → Bool

def G_q40 (N_ : Nat) (k0 : Bool) : Bool :=
  k0

def s_q40 (N_ : Nat) : TS_q40 := G_q40 N_

abbrev TS_q8 : Type := List Int → (Nat → Nat → Bool) → Bool

def st_q144 (N_ : Nat) (m_1 : Nat) (m_3 : List Int) (e0 : Nat → Bool) : (Nat) → ((Nat) → Bool) → Bool := fun v_ K => match v_ with
  | m_2 => (cond ((decide (((m_2 : Nat) : Int) > 0)) == true) ((fits .i64 (((m_2 : Nat) : Int) - 1)) && ((inR (((m_2 : Nat) : Int) - 1) m_2) && ((decide ((m_1 + (Int.toNat (((m_2 : Nat) : Int) - 1))) < (List.length m_3))) && (cond ((List.getD m_3 (m_1 + (Int.toNat (((m_2 : Nat) : Int) - 1))) 0) == 0) ((fits .i64 (((m_2 : Nat) : Int) - 1)) && ((decide (0 ≤ (((m_2 : Nat) : Int) - 1) ∧ (((m_2 : Nat) : Int) - 1) ≤ ((m_2 : Nat) : Int))) && (K ((Int.toNat (((m_2 : Nat) : Int) - 1)) - 0)))) (e0 m_2))))) (e0 m_2))

def G_q8 (N_ : Nat) (b : List Int) (k0 : Nat → Nat → Bool) : Bool :=
  (iterG N_ (st_q144 N_ 0 b (fun (m_4 : Nat) => (k0 0 m_4))) (List.length b))

def s_q8 (N_ : Nat) : TS_q8 := G_q8 N_

abbrev TS_q49 : Type := Int → (List Int → Bool) → Bool

def G_q49 (N_ : Nat) (S_q8 : TS_q8) (n : Int) (k0 : List Int → Bool) : Bool :=
  (S_q8 [(IntKind.wrap .u32 n), (IntKind.wrap .u32 (Int.fdiv n (2 ^ 32)))] (fun (mr : Nat) (mr_1 : Nat) => ((decide ((mr + mr_1) ≤ (List.length [(IntKind.wrap .u32 n), (IntKind.wrap .u32 (Int.fdiv n (2 ^ 32)))]))) && (k0 (List.take mr_1 (List.drop mr [(IntKind.wrap .u32 n), (IntKind.wrap .u32 (Int.fdiv n (2 ^ 32)))]))))))

def s_q49 (N_ : Nat) : TS_q49 := G_q49 N_ (s_q8 N_)

abbrev TS_q100 : Type := List Int → (List Int → Bool) → Bool

def st_z00_cut_0 (N_ : Nat) (e0 : List Int → Bool) : (List Int) → ((List Int) → Bool) → Bool := fun v_ K => match v_ with
  | m_1 => (cond ((decide ((((List.length m_1) : Nat) : Int) > 0)) == true) ((fits .i64 ((((List.length m_1) : Nat) : Int) - 1)) && ((inR ((((List.length m_1) : Nat) : Int) - 1) (List.length m_1)) && (cond ((List.getD m_1 (Int.toNat ((((List.length m_1) : Nat) : Int) - 1)) 0) == 0) ((fits .i64 ((((List.length m_1) : Nat) : Int) - 1)) && ((decide (0 ≤ ((((List.length m_1) : Nat) : Int) - 1) ∧ ((((List.length m_1) : Nat) : Int) - 1) ≤ (((List.length m_1) : Nat) : Int))) && (K (List.drop 0 (List.take (Int.toNat ((((List.length m_1) : Nat) : Int) - 1)) m_1))))) (e0 m_1)))) (e0 m_1))

def G_q100 (N_ : Nat) (m : List Int) (k0 : List Int → Bool) : Bool :=
  (iterG N_ (st_z00_cut_0 N_ (fun (m_2 : List Int) => (k0 m_2))) m)

def s_q100 (N_ : Nat) : TS_q100 := G_q100 N_

abbrev TS_q13 : Type := Bool → List Int → Bool → (Bool → List Int → Bool) → Bool

def G_q13 (N_ : Nat) (S_q100 : TS_q100) (neg : Bool) (m : List Int) (b : Bool) (k0 : Bool → List Int → Bool) : Bool :=
  (S_q100 m (fun (nsr : List Int) => (cond (neg == true) (k0 (decide ((((List.length nsr) : Nat) : Int) > 0)) nsr) (k0 false nsr))))

def s_q13 (N_ : Nat) : TS_q13 := G_q13 N_ (s_q100 N_)

abbrev TS_q25 : Type := Int → Bool → (Bool → List Int → Bool) → Bool

def G_q25 (N_ : Nat) (S_q49 : TS_q49) (S_q13 : TS_q13) (n : Int) (b : Bool) (k0 : Bool → List Int → Bool) : Bool :=
  (S_q49 n (fun (nsr : List Int) => (S_q13 false nsr b (fun (cr : Bool) (nsr_1 : List Int) => (k0 cr nsr_1)))))

def s_q25 (N_ : Nat) : TS_q25 := G_q25 N_ (s_q49 N_) (s_q13 N_)

abbrev TS_q19 : Type := Bool → List Int → Bool → List Int → (Bool → List Int → Bool) → Bool

def G_q19 (N_ : Nat) (S_q100 : TS_q100) (neg : Bool) (m : List Int) (b : Bool) (b_1 : List Int) (k0 : Bool → List Int → Bool) : Bool :=
  (S_q100 m (fun (nsr : List Int) => (cond (neg == true) (k0 (decide ((((List.length nsr) : Nat) : Int) > 0)) nsr) (k0 false nsr))))

def s_q19 (N_ : Nat) : TS_q19 := G_q19 N_ (s_q100 N_)

abbrev TS_q29 : Type := Int → Bool → List Int → (Bool → List Int → Bool) → Bool

def G_q29 (N_ : Nat) (S_q49 : TS_q49) (S_q19 : TS_q19) (n : Int) (b : Bool) (b_1 : List Int) (k0 : Bool → List Int → Bool) : Bool :=
  (S_q49 n (fun (nsr : List Int) => (S_q19 false nsr b b_1 (fun (cr : Bool) (nsr_1 : List Int) => (k0 cr nsr_1)))))

def s_q29 (N_ : Nat) : TS_q29 := G_q29 N_ (s_q49 N_) (s_q19 N_)

abbrev TS_q86 : Type := Int → (Bool → Bool) → (Bool → Bool → List Int → Bool) → (Bool → Int → Bool → List Int → Bool) → (Bool → Bool → List Int → Bool) → Bool

def G_q86 (N_ : Nat) (S_q25 : TS_q25) (S_q29 : TS_q29) (bits : Int) (k0 : Bool → Bool) (k1 : Bool → Bool → List Int → Bool) (k2 : Bool → Int → Bool → List Int → Bool) (k3 : Bool → Bool → List Int → Bool) : Bool :=
  ((fits .i64 (bitsN .and .u64 (Int.fdiv bits (2 ^ 52)) 2047)) && (S_q25 (bitsN .and .u64 bits 4503599627370495) false (fun (cr : Bool) (nsr : List Int) => (cond ((bitsN .and .u64 (Int.fdiv bits (2 ^ 52)) 2047) == 2047) (cond ((bitsN .and .u64 bits 4503599627370495) != 0) (k0 false) (k1 ((bitsN .and .u64 (Int.fdiv bits (2 ^ 63)) 1) == 1) cr nsr)) (cond (decide ((bitsN .and .u64 (Int.fdiv bits (2 ^ 52)) 2047) > 0)) (S_q29 (bitsN .or .u64 (bitsN .and .u64 bits 4503599627370495) 4503599627370496) cr nsr (fun (cr_1 : Bool) (nsr_1 : List Int) => ((fits .i64 ((bitsN .and .u64 (Int.fdiv bits (2 ^ 52)) 2047) - 1)) && ((fits .i64 (((bitsN .and .u64 (Int.fdiv bits (2 ^ 52)) 2047) - 1) + (-1022))) && ((fits .i64 ((((bitsN .and .u64 (Int.fdiv bits (2 ^ 52)) 2047) - 1) + (-1022)) - 53)) && ((fits .i64 (((((bitsN .and .u64 (Int.fdiv bits (2 ^ 52)) 2047) - 1) + (-1022)) - 53) + 1)) && (k2 ((bitsN .and .u64 (Int.fdiv bits (2 ^ 63)) 1) == 1) (((((bitsN .and .u64 (Int.fdiv bits (2 ^ 52)) 2047) - 1) + (-1022)) - 53) + 1) cr_1 nsr_1))))))) (k3 ((bitsN .and .u64 (Int.fdiv bits (2 ^ 63)) 1) == 1) cr nsr))))))

def s_q86 (N_ : Nat) : TS_q86 := G_q86 N_ (s_q25 N_) (s_q29 N_)

abbrev TS_q104 : Type := (Int → Bool) → Bool

def G_q104 (N_ : Nat) (k0 : Int → Bool) : Bool :=
  (k0 9221120237041090561)

def s_q104 (N_ : Nat) : TS_q104 := G_q104 N_

abbrev TS_q90 : Type := Bool → (Int → Int → Bool) → Bool

def G_q90 (N_ : Nat) (S_q104 : TS_q104) (b : Bool) (k0 : Int → Int → Bool) : Bool :=
  (S_q104 (fun (nr : Int) => (k0 nr 0)))

def s_q90 (N_ : Nat) : TS_q90 := G_q90 N_ (s_q104 N_)

abbrev TS_q20 : Type := Bool → Int → Int → (Int → Bool) → Bool

def G_q20 (N_ : Nat) (neg : Bool) (field : Int) (frac : Int) (k0 : Int → Bool) : Bool :=
  (cond neg (k0 (bitsN .or .u64 (bitsN .or .u64 (IntKind.wrap .u64 ((IntKind.wrap .u64 field) * 2 ^ 52)) frac) 9223372036854775808)) (k0 (bitsN .or .u64 (IntKind.wrap .u64 ((IntKind.wrap .u64 field) * 2 ^ 52)) frac)))

def s_q20 (N_ : Nat) : TS_q20 := G_q20 N_

abbrev TS_q47 : Type := Bool → (Int → Bool) → Bool

def G_q47 (N_ : Nat) (S_q20 : TS_q20) (neg : Bool) (k0 : Int → Bool) : Bool :=
  (S_q20 neg 2047 0 (fun (nr : Int) => (k0 nr)))

def s_q47 (N_ : Nat) : TS_q47 := G_q47 N_ (s_q20 N_)

abbrev TS_q44 : Type := Bool → List Int → (Int → Bool) → Bool

def G_q44 (N_ : Nat) (b : Bool) (b_1 : List Int) (k0 : Int → Bool) : Bool :=
  (cond ((((List.length b_1) : Nat) : Int) == 0) (k0 0) (cond b (k0 (-1)) (k0 1)))

def s_q44 (N_ : Nat) : TS_q44 := G_q44 N_

abbrev TS_q94 : Type := Int → Bool → Int → Bool → List Int → (Bool → Bool) → Bool

def G_q94 (N_ : Nat) (S_q44 : TS_q44) (n_0 : Int) (n_1 : Bool) (n_2 : Int) (b : Bool) (b_1 : List Int) (k0 : Bool → Bool) : Bool :=
  (cond ((n_0 == 0) == true) (S_q44 b b_1 (fun (nr : Int) => (k0 (nr == 0)))) (k0 false))

def s_q94 (N_ : Nat) : TS_q94 := G_q94 N_ (s_q44 N_)

abbrev TS_q99 : Type := Bool → (Int → Bool) → Bool

def G_q99 (N_ : Nat) (S_q20 : TS_q20) (neg : Bool) (k0 : Int → Bool) : Bool :=
  (S_q20 neg 0 0 (fun (nr : Int) => (k0 nr)))

def s_q99 (N_ : Nat) : TS_q99 := G_q99 N_ (s_q20 N_)

abbrev TS_q63 : Type := Int → (Int → Bool) → Bool

def G_q63 (N_ : Nat) (x : Int) (k0 : Int → Bool) : Bool :=
  (cond (decide (x ≥ 65536)) (cond (decide ((Int.fdiv x (2 ^ 16)) ≥ 256)) ((inR (IntKind.wrap .u8 (Int.fdiv (Int.fdiv x (2 ^ 16)) (2 ^ 8))) 256) && ((fits .i64 (List.getD strTab_11c1601c (Int.toNat (IntKind.wrap .u8 (Int.fdiv (Int.fdiv x (2 ^ 16)) (2 ^ 8)))) 0)) && ((fits .i64 (24 + (List.getD strTab_11c1601c (Int.toNat (IntKind.wrap .u8 (Int.fdiv (Int.fdiv x (2 ^ 16)) (2 ^ 8)))) 0))) && (k0 (24 + (List.getD strTab_11c1601c (Int.toNat (IntKind.wrap .u8 (Int.fdiv (Int.fdiv x (2 ^ 16)) (2 ^ 8)))) 0)))))) ((inR (IntKind.wrap .u8 (Int.fdiv x (2 ^ 16))) 256) && ((fits .i64 (List.getD strTab_11c1601c (Int.toNat (IntKind.wrap .u8 (Int.fdiv x (2 ^ 16)))) 0)) && ((fits .i64 (16 + (List.getD strTab_11c1601c (Int.toNat (IntKind.wrap .u8 (Int.fdiv x (2 ^ 16)))) 0))) && (k0 (16 + (List.getD strTab_11c1601c (Int.toNat (IntKind.wrap .u8 (Int.fdiv x (2 ^ 16)))) 0))))))) (cond (decide (x ≥ 256)) ((inR (IntKind.wrap .u8 (Int.fdiv x (2 ^ 8))) 256) && ((fits .i64 (List.getD strTab_11c1601c (Int.toNat (IntKind.wrap .u8 (Int.fdiv x (2 ^ 8)))) 0)) && ((fits .i64 (8 + (List.getD strTab_11c1601c (Int.toNat (IntKind.wrap .u8 (Int.fdiv x (2 ^ 8)))) 0))) && (k0 (8 + (List.getD strTab_11c1601c (Int.toNat (IntKind.wrap .u8 (Int.fdiv x (2 ^ 8)))) 0)))))) ((inR (IntKind.wrap .u8 x) 256) && ((fits .i64 (List.getD strTab_11c1601c (Int.toNat (IntKind.wrap .u8 x)) 0)) && ((fits .i64 (0 + (List.getD strTab_11c1601c (Int.toNat (IntKind.wrap .u8 x)) 0))) && (k0 (0 + (List.getD strTab_11c1601c (Int.toNat (IntKind.wrap .u8 x)) 0))))))))

def s_q63 (N_ : Nat) : TS_q63 := G_q63 N_

abbrev TS_q1 : Type := Bool → List Int → (Int → Bool) → Bool

def G_q1 (N_ : Nat) (S_q63 : TS_q63) (b : Bool) (b_1 : List Int) (k0 : Int → Bool) : Bool :=
  (cond ((((List.length b_1) : Nat) : Int) == 0) (k0 0) ((fits .i64 ((((List.length b_1) : Nat) : Int) - 1)) && ((fits .i64 (32 * ((((List.length b_1) : Nat) : Int) - 1))) && ((fits .i64 ((((List.length b_1) : Nat) : Int) - 1)) && ((inR ((((List.length b_1) : Nat) : Int) - 1) (List.length b_1)) && (S_q63 (List.getD b_1 (Int.toNat ((((List.length b_1) : Nat) : Int) - 1)) 0) (fun (nr : Int) => ((fits .i64 ((32 * ((((List.length b_1) : Nat) : Int) - 1)) + nr)) && (k0 ((32 * ((((List.length b_1) : Nat) : Int) - 1)) + nr))))))))))

def s_q1 (N_ : Nat) : TS_q1 := G_q1 N_ (s_q63 N_)

abbrev TS_q68 : Type := Bool → Bool → List Int → (Bool → Nat → Nat → Bool) → Bool

def G_q68 (N_ : Nat) (S_q8 : TS_q8) (neg : Bool) (b : Bool) (b_1 : List Int) (k0 : Bool → Nat → Nat → Bool) : Bool :=
  (S_q8 b_1 (fun (mr : Nat) (mr_1 : Nat) => (cond (neg == true) (k0 (decide (((mr_1 : Nat) : Int) > 0)) mr mr_1) (k0 false mr mr_1))))

def s_q68 (N_ : Nat) : TS_q68 := G_q68 N_ (s_q8 N_)

abbrev TS_q3 : Type := Bool → Bool → List Int → (Bool → List Int → Bool) → Bool

def G_q3 (N_ : Nat) (S_q68 : TS_q68) (b : Bool) (b_1 : Bool) (b_2 : List Int) (k0 : Bool → List Int → Bool) : Bool :=
  ((decide ((List.length ([] ++ b_2)) * 4 ≤ 140737488355328)) && (S_q68 b_1 b ([] ++ b_2) (fun (cr : Bool) (mr : Nat) (mr_1 : Nat) => ((decide ((mr + mr_1) ≤ (List.length ([] ++ b_2)))) && (k0 cr (List.take mr_1 (List.drop mr ([] ++ b_2))))))))

def s_q3 (N_ : Nat) : TS_q3 := G_q3 N_ (s_q68 N_)

abbrev TS_q79 : Type := List Int → Int → (List Int → Bool) → Bool

def st_z00_left_0 (N_ : Nat) (S_q8 : TS_q8) (m_1 : List Int) (w : Int) (s : Int) (e0 : List Int → Bool) : (Int × List Int) → ((Int × List Int) → Bool) → Bool := fun v_ K => match v_ with
  | (i, out) => (cond (decide (i < (((List.length m_1) : Nat) : Int))) ((inR i (List.length m_1)) && ((decide (0 ≤ s)) && ((fits .i64 (w + i)) && ((inR (w + i) (List.length out)) && ((decide ((Int.toNat (w + i)) < (List.length out))) && ((inR (w + i) (List.length out)) && ((decide ((Int.toNat (w + i)) < (List.length out))) && ((fits .i64 (w + i)) && ((fits .i64 ((w + i) + 1)) && ((inR ((w + i) + 1) (List.length (List.set out (Int.toNat (w + i)) (bitsN .or .u32 (List.getD out (Int.toNat (w + i)) 0) (IntKind.wrap .u32 (IntKind.wrap .u64 ((IntKind.wrap .u64 (List.getD m_1 (Int.toNat i) 0)) * 2 ^ (min (Int.toNat s) 64)))))))) && ((decide ((Int.toNat ((w + i) + 1)) < (List.length (List.set out (Int.toNat (w + i)) (bitsN .or .u32 (List.getD out (Int.toNat (w + i)) 0) (IntKind.wrap .u32 (IntKind.wrap .u64 ((IntKind.wrap .u64 (List.getD m_1 (Int.toNat i) 0)) * 2 ^ (min (Int.toNat s) 64))))))))) && ((fits .i64 (i + 1)) && (K ((i + 1), (List.set (List.set out (Int.toNat (w + i)) (bitsN .or .u32 (List.getD out (Int.toNat (w + i)) 0) (IntKind.wrap .u32 (IntKind.wrap .u64 ((IntKind.wrap .u64 (List.getD m_1 (Int.toNat i) 0)) * 2 ^ (min (Int.toNat s) 64)))))) (Int.toNat ((w + i) + 1)) (IntKind.wrap .u32 (Int.fdiv (IntKind.wrap .u64 ((IntKind.wrap .u64 (List.getD m_1 (Int.toNat i) 0)) * 2 ^ (min (Int.toNat s) 64))) (2 ^ 32)))))))))))))))))) (e0 out))

def G_q79 (N_ : Nat) (S_q8 : TS_q8) (m : List Int) (n : Int) (k0 : List Int → Bool) : Bool :=
  (cond ((((List.length m) : Nat) : Int) == 0) (k0 []) ((fits .i64 (IntKind.wrap .u64 (Int.tdiv n 32))) && ((fits .i64 ((IntKind.wrap .u64 (Int.tdiv n 32)) + (((List.length m) : Nat) : Int))) && ((fits .i64 (((IntKind.wrap .u64 (Int.tdiv n 32)) + (((List.length m) : Nat) : Int)) + 1)) && ((mkOk 4 (((IntKind.wrap .u64 (Int.tdiv n 32)) + (((List.length m) : Nat) : Int)) + 1) (((IntKind.wrap .u64 (Int.tdiv n 32)) + (((List.length m) : Nat) : Int)) + 1)) && (iterG N_ (st_z00_left_0 N_ S_q8 m (IntKind.wrap .u64 (Int.tdiv n 32)) (Int.tmod n 32) (fun (out_1 : List Int) => (S_q8 out_1 (fun (mr : Nat) (mr_1 : Nat) => ((decide ((mr + mr_1) ≤ (List.length out_1))) && (k0 (List.take mr_1 (List.drop mr out_1)))))))) (0, (List.replicate (Int.toNat (((IntKind.wrap .u64 (Int.tdiv n 32)) + (((List.length m) : Nat) : Int)) + 1)) 0))))))))

def s_q79 (N_ : Nat) : TS_q79 := G_q79 N_ (s_q8 N_)

abbrev TS_q5 : Type := Int → Bool → List Int → (Bool → List Int → Bool) → Bool

def G_q5 (N_ : Nat) (S_q79 : TS_q79) (S_q19 : TS_q19) (n : Int) (b : Bool) (b_1 : List Int) (k0 : Bool → List Int → Bool) : Bool :=
  (S_q79 b_1 n (fun (nsr : List Int) => (S_q19 b nsr b b_1 (fun (cr : Bool) (nsr_1 : List Int) => (k0 cr nsr_1)))))

def s_q5 (N_ : Nat) : TS_q5 := G_q5 N_ (s_q79 N_) (s_q19 N_)

abbrev TS_q66 : Type := List Int → Int → (List Int → Bool) → Bool

def st_z00_right_0 (N_ : Nat) (S_q8 : TS_q8) (m_1 : List Int) (w : Int) (s : Int) (e0 : List Int → Bool) : (Int × List Int) → ((Int × List Int) → Bool) → Bool := fun v_ K => match v_ with
  | (i, out) => (cond (decide (i < (((List.length out) : Nat) : Int))) ((fits .i64 (w + i)) && ((inR (w + i) (List.length m_1)) && ((fits .i64 (w + i)) && ((fits .i64 ((w + i) + 1)) && (cond (decide (((w + i) + 1) < (((List.length m_1) : Nat) : Int))) ((fits .i64 (w + i)) && ((fits .i64 ((w + i) + 1)) && ((inR ((w + i) + 1) (List.length m_1)) && ((decide (0 ≤ s)) && ((inR i (List.length out)) && ((decide ((Int.toNat i) < (List.length out))) && ((fits .i64 (i + 1)) && (K ((i + 1), (List.set out (Int.toNat i) (IntKind.wrap .u32 (Int.fdiv (bitsN .or .u64 (IntKind.wrap .u64 (List.getD m_1 (Int.toNat (w + i)) 0)) (IntKind.wrap .u64 ((IntKind.wrap .u64 (List.getD m_1 (Int.toNat ((w + i) + 1)) 0)) * 2 ^ 32))) (2 ^ (min (Int.toNat s) 64)))))))))))))) ((decide (0 ≤ s)) && ((inR i (List.length out)) && ((decide ((Int.toNat i) < (List.length out))) && ((fits .i64 (i + 1)) && (K ((i + 1), (List.set out (Int.toNat i) (IntKind.wrap .u32 (Int.fdiv (IntKind.wrap .u64 (List.getD m_1 (Int.toNat (w + i)) 0)) (2 ^ (min (Int.toNat s) 64)))))))))))))))) (e0 out))

def G_q66 (N_ : Nat) (S_q8 : TS_q8) (m : List Int) (n : Int) (k0 : List Int → Bool) : Bool :=
  ((fits .i64 (IntKind.wrap .u64 (Int.tdiv n 32))) && (cond (decide ((IntKind.wrap .u64 (Int.tdiv n 32)) ≥ (((List.length m) : Nat) : Int))) (k0 []) ((fits .i64 ((((List.length m) : Nat) : Int) - (IntKind.wrap .u64 (Int.tdiv n 32)))) && ((mkOk 4 ((((List.length m) : Nat) : Int) - (IntKind.wrap .u64 (Int.tdiv n 32))) ((((List.length m) : Nat) : Int) - (IntKind.wrap .u64 (Int.tdiv n 32)))) && (iterG N_ (st_z00_right_0 N_ S_q8 m (IntKind.wrap .u64 (Int.tdiv n 32)) (Int.tmod n 32) (fun (out_1 : List Int) => (S_q8 out_1 (fun (mr : Nat) (mr_1 : Nat) => ((decide ((mr + mr_1) ≤ (List.length out_1))) && (k0 (List.take mr_1 (List.drop mr out_1)))))))) (0, (List.replicate (Int.toNat ((((List.length m) : Nat) : Int) - (IntKind.wrap .u64 (Int.tdiv n 32)))) 0)))))))

def s_q66 (N_ : Nat) : TS_q66 := G_q66 N_ (s_q8 N_)

abbrev TS_q10 : Type := List Int → List Int → (List Int → Bool) → Bool

def st_z00_minus_0 (N_ : Nat) (S_q8 : TS_q8) (a_1 : List Int) (b_1 : List Int) (e0 : List Int → Bool) : (Int × Int × List Int) → ((Int × Int × List Int) → Bool) → Bool := fun v_ K => match v_ with
  | (borrow, i, out) => (cond (decide (i < (((List.length a_1) : Nat) : Int))) (cond (decide (i < (((List.length b_1) : Nat) : Int))) ((inR i (List.length b_1)) && ((inR i (List.length a_1)) && (cond (decide ((IntKind.wrap .u64 (List.getD a_1 (Int.toNat i) 0)) < (IntKind.wrap .u64 (borrow + (IntKind.wrap .u64 (List.getD b_1 (Int.toNat i) 0)))))) ((inR i (List.length out)) && ((decide ((Int.toNat i) < (List.length out))) && ((fits .i64 (i + 1)) && (K (1, (i + 1), (List.set out (Int.toNat i) (IntKind.wrap .u32 (IntKind.wrap .u64 ((IntKind.wrap .u64 ((IntKind.wrap .u64 (List.getD a_1 (Int.toNat i) 0)) + 4294967296)) - (IntKind.wrap .u64 (borrow + (IntKind.wrap .u64 (List.getD b_1 (Int.toNat i) 0))))))))))))) ((inR i (List.length out)) && ((decide ((Int.toNat i) < (List.length out))) && ((fits .i64 (i + 1)) && (K (0, (i + 1), (List.set out (Int.toNat i) (IntKind.wrap .u32 (IntKind.wrap .u64 ((IntKind.wrap .u64 (List.getD a_1 (Int.toNat i) 0)) - (IntKind.wrap .u64 (borrow + (IntKind.wrap .u64 (List.getD b_1 (Int.toNat i) 0)))))))))))))))) ((inR i (List.length a_1)) && (cond (decide ((IntKind.wrap .u64 (List.getD a_1 (Int.toNat i) 0)) < borrow)) ((inR i (List.length out)) && ((decide ((Int.toNat i) < (List.length out))) && ((fits .i64 (i + 1)) && (K (1, (i + 1), (List.set out (Int.toNat i) (IntKind.wrap .u32 (IntKind.wrap .u64 ((IntKind.wrap .u64 ((IntKind.wrap .u64 (List.getD a_1 (Int.toNat i) 0)) + 4294967296)) - borrow))))))))) ((inR i (List.length out)) && ((decide ((Int.toNat i) < (List.length out))) && ((fits .i64 (i + 1)) && (K (0, (i + 1), (List.set out (Int.toNat i) (IntKind.wrap .u32 (IntKind.wrap .u64 ((IntKind.wrap .u64 (List.getD a_1 (Int.toNat i) 0)) - borrow)))))))))))) (e0 out))

def G_q10 (N_ : Nat) (S_q8 : TS_q8) (a : List Int) (b : List Int) (k0 : List Int → Bool) : Bool :=
  ((mkOk 4 (((List.length a) : Nat) : Int) (((List.length a) : Nat) : Int)) && (iterG N_ (st_z00_minus_0 N_ S_q8 a b (fun (out_1 : List Int) => (S_q8 out_1 (fun (mr : Nat) (mr_1 : Nat) => ((decide ((mr + mr_1) ≤ (List.length out_1))) && (k0 (List.take mr_1 (List.drop mr out_1)))))))) (0, 0, (List.replicate (Int.toNat (((List.length a) : Nat) : Int)) 0))))

def s_q10 (N_ : Nat) : TS_q10 := G_q10 N_ (s_q8 N_)

abbrev TS_q45 : Type := List Int → List Int → (List Int → Bool) → Bool

def st_z00_plus_0 (N_ : Nat) (S_q8 : TS_q8) (a_1 : List Int) (b_1 : List Int) (e0 : Int → List Int → Bool) : (Int × Int × List Int) → ((Int × Int × List Int) → Bool) → Bool := fun v_ K => match v_ with
  | (carry, i, out) => (cond (decide (i < (((List.length a_1) : Nat) : Int))) ((inR i (List.length a_1)) && (cond (decide (i < (((List.length b_1) : Nat) : Int))) ((inR i (List.length b_1)) && ((inR i (List.length out)) && ((decide ((Int.toNat i) < (List.length out))) && ((fits .i64 (i + 1)) && (K ((Int.fdiv (IntKind.wrap .u64 ((IntKind.wrap .u64 ((IntKind.wrap .u64 (List.getD a_1 (Int.toNat i) 0)) + carry)) + (IntKind.wrap .u64 (List.getD b_1 (Int.toNat i) 0)))) (2 ^ 32)), (i + 1), (List.set out (Int.toNat i) (IntKind.wrap .u32 (IntKind.wrap .u64 ((IntKind.wrap .u64 ((IntKind.wrap .u64 (List.getD a_1 (Int.toNat i) 0)) + carry)) + (IntKind.wrap .u64 (List.getD b_1 (Int.toNat i) 0)))))))))))) ((inR i (List.length out)) && ((decide ((Int.toNat i) < (List.length out))) && ((fits .i64 (i + 1)) && (K ((Int.fdiv (IntKind.wrap .u64 ((IntKind.wrap .u64 (List.getD a_1 (Int.toNat i) 0)) + carry)) (2 ^ 32)), (i + 1), (List.set out (Int.toNat i) (IntKind.wrap .u32 (IntKind.wrap .u64 ((IntKind.wrap .u64 (List.getD a_1 (Int.toNat i) 0)) + carry))))))))))) (e0 carry out))

def G_q45 (N_ : Nat) (S_q8 : TS_q8) (a : List Int) (b : List Int) (k0 : List Int → Bool) : Bool :=
  (cond (decide ((((List.length a) : Nat) : Int) < (((List.length b) : Nat) : Int))) ((fits .i64 ((((List.length b) : Nat) : Int) + 1)) && ((mkOk 4 ((((List.length b) : Nat) : Int) + 1) ((((List.length b) : Nat) : Int) + 1)) && (iterG N_ (st_z00_plus_0 N_ S_q8 b a (fun (carry_1 : Int) (out_1 : List Int) => ((inR (((List.length b) : Nat) : Int) (List.length out_1)) && ((decide ((Int.toNat (((List.length b) : Nat) : Int)) < (List.length out_1))) && (S_q8 (List.set out_1 (Int.toNat (((List.length b) : Nat) : Int)) (IntKind.wrap .u32 carry_1)) (fun (mr : Nat) (mr_1 : Nat) => ((decide ((mr + mr_1) ≤ (List.length (List.set out_1 (Int.toNat (((List.length b) : Nat) : Int)) (IntKind.wrap .u32 carry_1))))) && (k0 (List.take mr_1 (List.drop mr (List.set out_1 (Int.toNat (((List.length b) : Nat) : Int)) (IntKind.wrap .u32 carry_1)))))))))))) (0, 0, (List.replicate (Int.toNat ((((List.length b) : Nat) : Int) + 1)) 0))))) ((fits .i64 ((((List.length a) : Nat) : Int) + 1)) && ((mkOk 4 ((((List.length a) : Nat) : Int) + 1) ((((List.length a) : Nat) : Int) + 1)) && (iterG N_ (st_z00_plus_0 N_ S_q8 a b (fun (carry_2 : Int) (out_2 : List Int) => ((inR (((List.length a) : Nat) : Int) (List.length out_2)) && ((decide ((Int.toNat (((List.length a) : Nat) : Int)) < (List.length out_2))) && (S_q8 (List.set out_2 (Int.toNat (((List.length a) : Nat) : Int)) (IntKind.wrap .u32 carry_2)) (fun (mr_2 : Nat) (mr_3 : Nat) => ((decide ((mr_2 + mr_3) ≤ (List.length (List.set out_2 (Int.toNat (((List.length a) : Nat) : Int)) (IntKind.wrap .u32 carry_2))))) && (k0 (List.take mr_3 (List.drop mr_2 (List.set out_2 (Int.toNat (((List.length a) : Nat) : Int)) (IntKind.wrap .u32 carry_2)))))))))))) (0, 0, (List.replicate (Int.toNat ((((List.length a) : Nat) : Int) + 1)) 0))))))

def s_q45 (N_ : Nat) : TS_q45 := G_q45 N_ (s_q8 N_)

abbrev TS_q56 : Type := Int → Bool → Bool → List Int → (Bool → List Int → Bool) → Bool

def G_q56 (N_ : Nat) (S_q66 : TS_q66) (S_q13 : TS_q13) (S_q10 : TS_q10) (S_q45 : TS_q45) (n : Int) (b : Bool) (b_1 : Bool) (b_2 : List Int) (k0 : Bool → List Int → Bool) : Bool :=
  (cond (!b_1) (S_q66 b_2 n (fun (nsr : List Int) => (S_q13 false nsr b (fun (cr : Bool) (nsr_1 : List Int) => (k0 cr nsr_1))))) (S_q10 b_2 [1] (fun (nsr_2 : List Int) => (S_q66 nsr_2 n (fun (nsr_3 : List Int) => (S_q45 nsr_3 [1] (fun (nsr_4 : List Int) => (S_q13 true nsr_4 b (fun (cr_1 : Bool) (nsr_5 : List Int) => (k0 cr_1 nsr_5))))))))))

def s_q56 (N_ : Nat) : TS_q56 := G_q56 N_ (s_q66 N_) (s_q13 N_) (s_q10 N_) (s_q45 N_)

abbrev TS_q54 : Type := Int → Bool → Bool → List Int → (Bool → List Int → Bool) → Bool

def G_q54 (N_ : Nat) (S_q79 : TS_q79) (S_q13 : TS_q13) (n : Int) (b : Bool) (b_1 : Bool) (b_2 : List Int) (k0 : Bool → List Int → Bool) : Bool :=
  (S_q79 b_2 n (fun (nsr : List Int) => (S_q13 b_1 nsr b (fun (cr : Bool) (nsr_1 : List Int) => (k0 cr nsr_1)))))

def s_q54 (N_ : Nat) : TS_q54 := G_q54 N_ (s_q79 N_) (s_q13 N_)

abbrev TS_q23 : Type := List Int → List Int → (Int → Bool) → Bool

def st_q136 (N_ : Nat) (a_1 : List Int) (b_1 : List Int) (e0 : Int → Bool) (e1 : Bool) : (Int) → ((Int) → Bool) → Bool := fun v_ K => match v_ with
  | i => (cond (decide (i ≥ 0)) ((inR i (List.length a_1)) && ((inR i (List.length b_1)) && (cond (decide ((List.getD a_1 (Int.toNat i) 0) < (List.getD b_1 (Int.toNat i) 0))) (e0 (-1)) ((inR i (List.length a_1)) && ((inR i (List.length b_1)) && (cond (decide ((List.getD a_1 (Int.toNat i) 0) > (List.getD b_1 (Int.toNat i) 0))) (e0 1) ((fits .i64 (i - 1)) && (K (i - 1))))))))) e1)

def G_q23 (N_ : Nat) (a : List Int) (b : List Int) (k0 : Int → Bool) : Bool :=
  (cond ((((List.length a) : Nat) : Int) != (((List.length b) : Nat) : Int)) (cond (decide ((((List.length a) : Nat) : Int) < (((List.length b) : Nat) : Int))) (k0 (-1)) (k0 1)) ((fits .i64 ((((List.length a) : Nat) : Int) - 1)) && (iterG N_ (st_q136 N_ a b (fun (t4 : Int) => (k0 t4)) (k0 0)) ((((List.length a) : Nat) : Int) - 1))))

def s_q23 (N_ : Nat) : TS_q23 := G_q23 N_

abbrev TS_q31 : Type := Bool → Bool → Bool → List Int → Bool → List Int → (Bool → List Int → Bool) → Bool

def G_q31 (N_ : Nat) (S_q45 : TS_q45) (S_q13 : TS_q13) (S_q23 : TS_q23) (S_q10 : TS_q10) (turn : Bool) (b : Bool) (b_1 : Bool) (b_2 : List Int) (b_3 : Bool) (b_4 : List Int) (k0 : Bool → List Int → Bool) : Bool :=
  (cond (b_1 == (b_3 != turn)) (S_q45 b_2 b_4 (fun (nsr : List Int) => (S_q13 (b_3 != turn) nsr b (fun (cr : Bool) (nsr_1 : List Int) => (k0 cr nsr_1))))) (S_q23 b_2 b_4 (fun (nr : Int) => (cond (decide (nr ≥ 0)) (S_q10 b_2 b_4 (fun (nsr_2 : List Int) => (S_q13 b_1 nsr_2 b (fun (cr_1 : Bool) (nsr_3 : List Int) => (k0 cr_1 nsr_3))))) (S_q10 b_4 b_2 (fun (nsr_4 : List Int) => (S_q13 (b_3 != turn) nsr_4 b (fun (cr_2 : Bool) (nsr_5 : List Int) => (k0 cr_2 nsr_5)))))))))

def s_q31 (N_ : Nat) : TS_q31 := G_q31 N_ (s_q45 N_) (s_q13 N_) (s_q23 N_) (s_q10 N_)

abbrev TS_q30 : Type := Bool → Bool → List Int → Bool → List Int → (Bool → List Int → Bool) → Bool

def G_q30 (N_ : Nat) (S_q31 : TS_q31) (b : Bool) (b_1 : Bool) (b_2 : List Int) (b_3 : Bool) (b_4 : List Int) (k0 : Bool → List Int → Bool) : Bool :=
  (S_q31 true b b_1 b_2 b_3 b_4 (fun (cr : Bool) (nsr : List Int) => (k0 cr nsr)))

def s_q30 (N_ : Nat) : TS_q30 := G_q30 N_ (s_q31 N_)

abbrev TS_q34 : Type := Int → Bool → (Bool → List Int → Bool) → Bool

def G_q34 (N_ : Nat) (S_q49 : TS_q49) (S_q13 : TS_q13) (n : Int) (b : Bool) (k0 : Bool → List Int → Bool) : Bool :=
  (cond (decide (n < 0)) (S_q49 (IntKind.wrap .u64 (0 - (IntKind.wrap .u64 n))) (fun (nsr : List Int) => (S_q13 (decide (n < 0)) nsr b (fun (cr : Bool) (nsr_1 : List Int) => (k0 cr nsr_1))))) (S_q49 (IntKind.wrap .u64 n) (fun (nsr_2 : List Int) => (S_q13 (decide (n < 0)) nsr_2 b (fun (cr_1 : Bool) (nsr_3 : List Int) => (k0 cr_1 nsr_3))))))

def s_q34 (N_ : Nat) : TS_q34 := G_q34 N_ (s_q49 N_) (s_q13 N_)

abbrev TS_q6 : Type := Int → (Bool → List Int → Bool) → Bool

def G_q6 (N_ : Nat) (S_q34 : TS_q34) (n : Int) (k0 : Bool → List Int → Bool) : Bool :=
  (S_q34 n false (fun (cr : Bool) (nsr : List Int) => (k0 cr nsr)))

def s_q6 (N_ : Nat) : TS_q6 := G_q6 N_ (s_q34 N_)

abbrev TS_q55 : Type := Bool → List Int → Bool → List Int → (Int → Bool) → Bool

def G_q55 (N_ : Nat) (S_q23 : TS_q23) (b : Bool) (b_1 : List Int) (b_2 : Bool) (b_3 : List Int) (k0 : Int → Bool) : Bool :=
  (cond (b != b_2) (cond b (k0 (-1)) (k0 1)) (S_q23 b_1 b_3 (fun (nr : Int) => (cond b ((fits .i64 (0 - nr)) && (k0 (0 - nr))) (k0 nr)))))

def s_q55 (N_ : Nat) : TS_q55 := G_q55 N_ (s_q23 N_)

abbrev TS_q17 : Type := Int → Bool → List Int → (Int → Bool → List Int → Bool) → Bool

def G_q17 (N_ : Nat) (S_q56 : TS_q56) (S_q54 : TS_q54) (S_q30 : TS_q30) (S_q44 : TS_q44) (S_q6 : TS_q6) (S_q55 : TS_q55) (s : Int) (b : Bool) (b_1 : List Int) (k0 : Int → Bool → List Int → Bool) : Bool :=
  (S_q56 (IntKind.wrap .u64 s) false b b_1 (fun (cr : Bool) (nsr : List Int) => (S_q54 (IntKind.wrap .u64 s) false cr nsr (fun (cr_1 : Bool) (nsr_1 : List Int) => (S_q30 false b b_1 cr_1 nsr_1 (fun (cr_2 : Bool) (nsr_2 : List Int) => (cond (s == 0) (k0 (-2) cr nsr) (S_q44 cr_2 nsr_2 (fun (nr : Int) => (cond ((nr == 0) == true) (k0 (-2) cr nsr) (S_q6 1 (fun (cr_3 : Bool) (nsr_3 : List Int) => ((fits .i64 (s - 1)) && (S_q54 (IntKind.wrap .u64 (s - 1)) false cr_3 nsr_3 (fun (cr_4 : Bool) (nsr_4 : List Int) => (S_q55 cr_2 nsr_2 cr_4 nsr_4 (fun (nr_1 : Int) => (cond ((nr_1 == 0) == true) (k0 nr_1 cr nsr) (k0 nr_1 cr nsr)))))))))))))))))))

def s_q17 (N_ : Nat) : TS_q17 := G_q17 N_ (s_q56 N_) (s_q54 N_) (s_q30 N_) (s_q44 N_) (s_q6 N_) (s_q55 N_)

abbrev TS_q70 : Type := Int → Bool → List Int → (Int → Bool) → Bool

def J_q129 (N_ : Nat) (S_q10 : TS_q10) (i : Int) (b : Bool) (b_1 : List Int) (b_3 : Int) (k0 : Int → Bool) : Bool :=
  (cond b (k0 (IntKind.wrap .u64 (IntKind.wrap .u32 (1 - b_3)))) (k0 (IntKind.wrap .u64 b_3)))

def J_q127 (N_ : Nat) (S_q10 : TS_q10) (i : Int) (b : Bool) (b_1 : List Int) (k0 : Int → Bool) : Bool :=
  ((fits .i64 (Int.tdiv i 32)) && (cond (decide ((Int.tdiv i 32) < (((List.length b_1) : Nat) : Int))) ((fits .i64 (Int.tdiv i 32)) && ((inR (Int.tdiv i 32) (List.length b_1)) && ((decide (0 ≤ (IntKind.wrap .u64 (Int.tmod i 32)))) && (J_q129 N_ S_q10 i b b_1 (bitsN .and .u32 (Int.fdiv (List.getD b_1 (Int.toNat (Int.tdiv i 32)) 0) (2 ^ (min (Int.toNat (IntKind.wrap .u64 (Int.tmod i 32))) 32))) 1) k0)))) (J_q129 N_ S_q10 i b b_1 0 k0)))

def J_q137 (N_ : Nat) (S_q10 : TS_q10) (i : Int) (b : Bool) (b_1 : List Int) (b_2 : Int) (k0 : Int → Bool) : Bool :=
  (cond b (k0 (IntKind.wrap .u64 (IntKind.wrap .u32 (1 - b_2)))) (k0 (IntKind.wrap .u64 b_2)))

def J_q128 (N_ : Nat) (S_q10 : TS_q10) (i : Int) (b : Bool) (b_1 : List Int) (m : List Int) (k0 : Int → Bool) : Bool :=
  ((fits .i64 (Int.tdiv i 32)) && (cond (decide ((Int.tdiv i 32) < (((List.length m) : Nat) : Int))) ((fits .i64 (Int.tdiv i 32)) && ((inR (Int.tdiv i 32) (List.length m)) && ((decide (0 ≤ (IntKind.wrap .u64 (Int.tmod i 32)))) && (J_q137 N_ S_q10 i b b_1 (bitsN .and .u32 (Int.fdiv (List.getD m (Int.toNat (Int.tdiv i 32)) 0) (2 ^ (min (Int.toNat (IntKind.wrap .u64 (Int.tmod i 32))) 32))) 1) k0)))) (J_q137 N_ S_q10 i b b_1 0 k0)))

def G_q70 (N_ : Nat) (S_q10 : TS_q10) (i : Int) (b : Bool) (b_1 : List Int) (k0 : Int → Bool) : Bool :=
  (cond b (S_q10 b_1 [1] (fun (nsr : List Int) => (J_q128 N_ S_q10 i b b_1 nsr k0))) (J_q127 N_ S_q10 i b b_1 k0))

def s_q70 (N_ : Nat) : TS_q70 := G_q70 N_ (s_q10 N_)

abbrev TS_q7 : Type := Bool → Int → Bool → List Int → (Bool → Bool) → Bool

def G_q7 (N_ : Nat) (S_q70 : TS_q70) (neg : Bool) (c : Int) (b : Bool) (b_1 : List Int) (k0 : Bool → Bool) : Bool :=
  (cond ((decide (c > 0)) == false) (cond ((c == 0) == true) (S_q70 0 b b_1 (fun (nr : Int) => (k0 (nr == 1)))) (k0 false)) (k0 true))

def s_q7 (N_ : Nat) : TS_q7 := G_q7 N_ (s_q70 N_)

abbrev TS_q33 : Type := Bool → Bool → List Int → Bool → List Int → (Bool → List Int → Bool) → Bool

def G_q33 (N_ : Nat) (S_q45 : TS_q45) (S_q19 : TS_q19) (S_q23 : TS_q23) (S_q10 : TS_q10) (turn : Bool) (b : Bool) (b_1 : List Int) (b_2 : Bool) (b_3 : List Int) (k0 : Bool → List Int → Bool) : Bool :=
  (cond (b == (b_2 != turn)) (S_q45 b_1 b_3 (fun (nsr : List Int) => (S_q19 (b_2 != turn) nsr b b_1 (fun (cr : Bool) (nsr_1 : List Int) => (k0 cr nsr_1))))) (S_q23 b_1 b_3 (fun (nr : Int) => (cond (decide (nr ≥ 0)) (S_q10 b_1 b_3 (fun (nsr_2 : List Int) => (S_q19 b nsr_2 b b_1 (fun (cr_1 : Bool) (nsr_3 : List Int) => (k0 cr_1 nsr_3))))) (S_q10 b_3 b_1 (fun (nsr_4 : List Int) => (S_q19 (b_2 != turn) nsr_4 b b_1 (fun (cr_2 : Bool) (nsr_5 : List Int) => (k0 cr_2 nsr_5)))))))))

def s_q33 (N_ : Nat) : TS_q33 := G_q33 N_ (s_q45 N_) (s_q19 N_) (s_q23 N_) (s_q10 N_)

abbrev TS_q0 : Type := Bool → List Int → Bool → List Int → (Bool → List Int → Bool) → Bool

def G_q0 (N_ : Nat) (S_q33 : TS_q33) (b : Bool) (b_1 : List Int) (b_2 : Bool) (b_3 : List Int) (k0 : Bool → List Int → Bool) : Bool :=
  (S_q33 false b b_1 b_2 b_3 (fun (cr : Bool) (nsr : List Int) => (k0 cr nsr)))

def s_q0 (N_ : Nat) : TS_q0 := G_q0 N_ (s_q33 N_)

abbrev TS_q4 : Type := Int → Bool → List Int → (Bool → List Int → Bool) → Bool

def G_q4 (N_ : Nat) (S_q66 : TS_q66) (S_q19 : TS_q19) (S_q10 : TS_q10) (S_q45 : TS_q45) (n : Int) (b : Bool) (b_1 : List Int) (k0 : Bool → List Int → Bool) : Bool :=
  (cond (!b) (S_q66 b_1 n (fun (nsr : List Int) => (S_q19 false nsr b b_1 (fun (cr : Bool) (nsr_1 : List Int) => (k0 cr nsr_1))))) (S_q10 b_1 [1] (fun (nsr_2 : List Int) => (S_q66 nsr_2 n (fun (nsr_3 : List Int) => (S_q45 nsr_3 [1] (fun (nsr_4 : List Int) => (S_q19 true nsr_4 b b_1 (fun (cr_1 : Bool) (nsr_5 : List Int) => (k0 cr_1 nsr_5))))))))))

def s_q4 (N_ : Nat) : TS_q4 := G_q4 N_ (s_q66 N_) (s_q19 N_) (s_q10 N_) (s_q45 N_)

abbrev TS_q16 : Type := Bool → (Int → Bool) → Bool

def G_q16 (N_ : Nat) (S_q47 : TS_q47) (neg : Bool) (k0 : Int → Bool) : Bool :=
  (S_q47 neg (fun (nr : Int) => (k0 nr)))

def s_q16 (N_ : Nat) : TS_q16 := G_q16 N_ (s_q47 N_)

abbrev TS_q2 : Type := Bool → List Int → (Int → Bool) → Bool

def J_q125 (N_ : Nat) (b : Bool) (b_1 : List Int) (u : Int) (k0 : Int → Bool) : Bool :=
  (cond (decide ((((List.length b_1) : Nat) : Int) > 1)) ((inR 1 (List.length b_1)) && (k0 (bitsN .or .u64 u (IntKind.wrap .u64 ((IntKind.wrap .u64 (List.getD b_1 1 0)) * 2 ^ 32))))) (k0 u))

def G_q2 (N_ : Nat) (b : Bool) (b_1 : List Int) (k0 : Int → Bool) : Bool :=
  (cond (decide ((((List.length b_1) : Nat) : Int) > 0)) ((inR 0 (List.length b_1)) && (J_q125 N_ b b_1 (IntKind.wrap .u64 (List.getD b_1 0 0)) k0)) (J_q125 N_ b b_1 0 k0))

def s_q2 (N_ : Nat) : TS_q2 := G_q2 N_

abbrev TS_q82 : Type := Bool → Int → Bool → List Int → (Int → Int → Bool) → Bool

def J_q130 (N_ : Nat) (S_q1 : TS_q1) (S_q3 : TS_q3) (S_q5 : TS_q5) (S_q17 : TS_q17) (S_q7 : TS_q7) (S_q6 : TS_q6) (S_q0 : TS_q0) (S_q4 : TS_q4) (S_q16 : TS_q16) (S_q2 : TS_q2) (S_q20 : TS_q20) (neg : Bool) (e : Int) (b : Bool) (b_1 : List Int) (quantum_11 : Int) (flags_3 : Int) (q_22 : Bool) (q_23 : List Int) (k0 : Int → Int → Bool) : Bool :=
  (S_q1 q_22 q_23 (fun (nr_27 : Int) => ((fits .i64 (quantum_11 + nr_27)) && ((fits .i64 ((quantum_11 + nr_27) - 1)) && (cond (decide (((quantum_11 + nr_27) - 1) > 1023)) (S_q16 neg (fun (nr_28 : Int) => (k0 nr_28 5))) (S_q1 q_22 q_23 (fun (nr_29 : Int) => (cond (decide (nr_29 < 53)) (S_q2 q_22 q_23 (fun (nr_30 : Int) => (S_q20 neg 0 nr_30 (fun (nr_31 : Int) => (k0 nr_31 flags_3))))) ((fits .i64 (quantum_11 - (-1074))) && ((fits .i64 ((quantum_11 - (-1074)) + 1)) && (S_q2 q_22 q_23 (fun (nr_32 : Int) => (S_q20 neg ((quantum_11 - (-1074)) + 1) (bitsN .and .u64 nr_32 4503599627370495) (fun (nr_33 : Int) => (k0 nr_33 flags_3)))))))))))))))

def J_q122 (N_ : Nat) (S_q1 : TS_q1) (S_q3 : TS_q3) (S_q5 : TS_q5) (S_q17 : TS_q17) (S_q7 : TS_q7) (S_q6 : TS_q6) (S_q0 : TS_q0) (S_q4 : TS_q4) (S_q16 : TS_q16) (S_q2 : TS_q2) (S_q20 : TS_q20) (neg : Bool) (e : Int) (b : Bool) (b_1 : List Int) (quantum_10 : Int) (flags_2 : Int) (q_20 : Bool) (q_21 : List Int) (k0 : Int → Int → Bool) : Bool :=
  (S_q1 q_20 q_21 (fun (nr_26 : Int) => (cond (decide (nr_26 > 53)) (S_q4 1 q_20 q_21 (fun (cr_12 : Bool) (nsr_10 : List Int) => ((fits .i64 (quantum_10 + 1)) && (J_q130 N_ S_q1 S_q3 S_q5 S_q17 S_q7 S_q6 S_q0 S_q4 S_q16 S_q2 S_q20 neg e b b_1 (quantum_10 + 1) flags_2 cr_12 nsr_10 k0)))) (J_q130 N_ S_q1 S_q3 S_q5 S_q17 S_q7 S_q6 S_q0 S_q4 S_q16 S_q2 S_q20 neg e b b_1 quantum_10 flags_2 q_20 q_21 k0))))

def J_q134 (N_ : Nat) (S_q1 : TS_q1) (S_q3 : TS_q3) (S_q5 : TS_q5) (S_q17 : TS_q17) (S_q7 : TS_q7) (S_q6 : TS_q6) (S_q0 : TS_q0) (S_q4 : TS_q4) (S_q16 : TS_q16) (S_q2 : TS_q2) (S_q20 : TS_q20) (neg : Bool) (e : Int) (b : Bool) (b_1 : List Int) (top_5 : Int) (quantum_9 : Int) (c_2 : Int) (q_18 : Bool) (q_19 : List Int) (k0 : Int → Int → Bool) : Bool :=
  (cond (decide (c_2 > (-2))) (cond (decide (top_5 < (-1022))) (J_q122 N_ S_q1 S_q3 S_q5 S_q17 S_q7 S_q6 S_q0 S_q4 S_q16 S_q2 S_q20 neg e b b_1 quantum_9 3 q_18 q_19 k0) (J_q122 N_ S_q1 S_q3 S_q5 S_q17 S_q7 S_q6 S_q0 S_q4 S_q16 S_q2 S_q20 neg e b b_1 quantum_9 1 q_18 q_19 k0)) (J_q122 N_ S_q1 S_q3 S_q5 S_q17 S_q7 S_q6 S_q0 S_q4 S_q16 S_q2 S_q20 neg e b b_1 quantum_9 0 q_18 q_19 k0))

def J_q142 (N_ : Nat) (S_q1 : TS_q1) (S_q3 : TS_q3) (S_q5 : TS_q5) (S_q17 : TS_q17) (S_q7 : TS_q7) (S_q6 : TS_q6) (S_q0 : TS_q0) (S_q4 : TS_q4) (S_q16 : TS_q16) (S_q2 : TS_q2) (S_q20 : TS_q20) (neg : Bool) (e : Int) (b : Bool) (b_1 : List Int) (quantum_8 : Int) (flags_1 : Int) (q_16 : Bool) (q_17 : List Int) (k0 : Int → Int → Bool) : Bool :=
  (S_q1 q_16 q_17 (fun (nr_19 : Int) => ((fits .i64 (quantum_8 + nr_19)) && ((fits .i64 ((quantum_8 + nr_19) - 1)) && (cond (decide (((quantum_8 + nr_19) - 1) > 1023)) (S_q16 neg (fun (nr_20 : Int) => (k0 nr_20 5))) (S_q1 q_16 q_17 (fun (nr_21 : Int) => (cond (decide (nr_21 < 53)) (S_q2 q_16 q_17 (fun (nr_22 : Int) => (S_q20 neg 0 nr_22 (fun (nr_23 : Int) => (k0 nr_23 flags_1))))) ((fits .i64 (quantum_8 - (-1074))) && ((fits .i64 ((quantum_8 - (-1074)) + 1)) && (S_q2 q_16 q_17 (fun (nr_24 : Int) => (S_q20 neg ((quantum_8 - (-1074)) + 1) (bitsN .and .u64 nr_24 4503599627370495) (fun (nr_25 : Int) => (k0 nr_25 flags_1)))))))))))))))

def J_q126 (N_ : Nat) (S_q1 : TS_q1) (S_q3 : TS_q3) (S_q5 : TS_q5) (S_q17 : TS_q17) (S_q7 : TS_q7) (S_q6 : TS_q6) (S_q0 : TS_q0) (S_q4 : TS_q4) (S_q16 : TS_q16) (S_q2 : TS_q2) (S_q20 : TS_q20) (neg : Bool) (e : Int) (b : Bool) (b_1 : List Int) (quantum_7 : Int) (flags : Int) (q_14 : Bool) (q_15 : List Int) (k0 : Int → Int → Bool) : Bool :=
  (S_q1 q_14 q_15 (fun (nr_18 : Int) => (cond (decide (nr_18 > 53)) (S_q4 1 q_14 q_15 (fun (cr_11 : Bool) (nsr_9 : List Int) => ((fits .i64 (quantum_7 + 1)) && (J_q142 N_ S_q1 S_q3 S_q5 S_q17 S_q7 S_q6 S_q0 S_q4 S_q16 S_q2 S_q20 neg e b b_1 (quantum_7 + 1) flags cr_11 nsr_9 k0)))) (J_q142 N_ S_q1 S_q3 S_q5 S_q17 S_q7 S_q6 S_q0 S_q4 S_q16 S_q2 S_q20 neg e b b_1 quantum_7 flags q_14 q_15 k0))))

def J_q133 (N_ : Nat) (S_q1 : TS_q1) (S_q3 : TS_q3) (S_q5 : TS_q5) (S_q17 : TS_q17) (S_q7 : TS_q7) (S_q6 : TS_q6) (S_q0 : TS_q0) (S_q4 : TS_q4) (S_q16 : TS_q16) (S_q2 : TS_q2) (S_q20 : TS_q20) (neg : Bool) (e : Int) (b : Bool) (b_1 : List Int) (top_4 : Int) (quantum_6 : Int) (c_1 : Int) (q_12 : Bool) (q_13 : List Int) (k0 : Int → Int → Bool) : Bool :=
  (cond (decide (c_1 > (-2))) (cond (decide (top_4 < (-1022))) (J_q126 N_ S_q1 S_q3 S_q5 S_q17 S_q7 S_q6 S_q0 S_q4 S_q16 S_q2 S_q20 neg e b b_1 quantum_6 3 q_12 q_13 k0) (J_q126 N_ S_q1 S_q3 S_q5 S_q17 S_q7 S_q6 S_q0 S_q4 S_q16 S_q2 S_q20 neg e b b_1 quantum_6 1 q_12 q_13 k0)) (J_q126 N_ S_q1 S_q3 S_q5 S_q17 S_q7 S_q6 S_q0 S_q4 S_q16 S_q2 S_q20 neg e b b_1 quantum_6 0 q_12 q_13 k0))

def J_q141 (N_ : Nat) (S_q1 : TS_q1) (S_q3 : TS_q3) (S_q5 : TS_q5) (S_q17 : TS_q17) (S_q7 : TS_q7) (S_q6 : TS_q6) (S_q0 : TS_q0) (S_q4 : TS_q4) (S_q16 : TS_q16) (S_q2 : TS_q2) (S_q20 : TS_q20) (neg : Bool) (e : Int) (b : Bool) (b_1 : List Int) (top_3 : Int) (quantum_5 : Int) (c : Int) (q_10 : Bool) (q_11 : List Int) (k0 : Int → Int → Bool) : Bool :=
  (S_q7 neg c q_10 q_11 (fun (cr_8 : Bool) => (cond cr_8 (S_q6 1 (fun (cr_9 : Bool) (nsr_7 : List Int) => (S_q0 q_10 q_11 cr_9 nsr_7 (fun (cr_10 : Bool) (nsr_8 : List Int) => (J_q133 N_ S_q1 S_q3 S_q5 S_q17 S_q7 S_q6 S_q0 S_q4 S_q16 S_q2 S_q20 neg e b b_1 top_3 quantum_5 c cr_10 nsr_8 k0))))) (J_q134 N_ S_q1 S_q3 S_q5 S_q17 S_q7 S_q6 S_q0 S_q4 S_q16 S_q2 S_q20 neg e b b_1 top_3 quantum_5 c q_10 q_11 k0))))

def J_q140 (N_ : Nat) (S_q1 : TS_q1) (S_q3 : TS_q3) (S_q5 : TS_q5) (S_q17 : TS_q17) (S_q7 : TS_q7) (S_q6 : TS_q6) (S_q0 : TS_q0) (S_q4 : TS_q4) (S_q16 : TS_q16) (S_q2 : TS_q2) (S_q20 : TS_q20) (neg : Bool) (e : Int) (b : Bool) (b_1 : List Int) (quantum_4 : Int) (q_8 : Bool) (q_9 : List Int) (k0 : Int → Int → Bool) : Bool :=
  (S_q1 q_8 q_9 (fun (nr_11 : Int) => ((fits .i64 (quantum_4 + nr_11)) && ((fits .i64 ((quantum_4 + nr_11) - 1)) && (cond (decide (((quantum_4 + nr_11) - 1) > 1023)) (S_q16 neg (fun (nr_12 : Int) => (k0 nr_12 5))) (S_q1 q_8 q_9 (fun (nr_13 : Int) => (cond (decide (nr_13 < 53)) (S_q2 q_8 q_9 (fun (nr_14 : Int) => (S_q20 neg 0 nr_14 (fun (nr_15 : Int) => (k0 nr_15 0))))) ((fits .i64 (quantum_4 - (-1074))) && ((fits .i64 ((quantum_4 - (-1074)) + 1)) && (S_q2 q_8 q_9 (fun (nr_16 : Int) => (S_q20 neg ((quantum_4 - (-1074)) + 1) (bitsN .and .u64 nr_16 4503599627370495) (fun (nr_17 : Int) => (k0 nr_17 0)))))))))))))))

def J_q132 (N_ : Nat) (S_q1 : TS_q1) (S_q3 : TS_q3) (S_q5 : TS_q5) (S_q17 : TS_q17) (S_q7 : TS_q7) (S_q6 : TS_q6) (S_q0 : TS_q0) (S_q4 : TS_q4) (S_q16 : TS_q16) (S_q2 : TS_q2) (S_q20 : TS_q20) (neg : Bool) (e : Int) (b : Bool) (b_1 : List Int) (top_2 : Int) (quantum_3 : Int) (q_6 : Bool) (q_7 : List Int) (k0 : Int → Int → Bool) : Bool :=
  (S_q1 q_6 q_7 (fun (nr_10 : Int) => (cond (decide (nr_10 > 53)) (S_q4 1 q_6 q_7 (fun (cr_7 : Bool) (nsr_6 : List Int) => ((fits .i64 (quantum_3 + 1)) && (J_q140 N_ S_q1 S_q3 S_q5 S_q17 S_q7 S_q6 S_q0 S_q4 S_q16 S_q2 S_q20 neg e b b_1 (quantum_3 + 1) cr_7 nsr_6 k0)))) (J_q140 N_ S_q1 S_q3 S_q5 S_q17 S_q7 S_q6 S_q0 S_q4 S_q16 S_q2 S_q20 neg e b b_1 quantum_3 q_6 q_7 k0))))

def J_q139 (N_ : Nat) (S_q1 : TS_q1) (S_q3 : TS_q3) (S_q5 : TS_q5) (S_q17 : TS_q17) (S_q7 : TS_q7) (S_q6 : TS_q6) (S_q0 : TS_q0) (S_q4 : TS_q4) (S_q16 : TS_q16) (S_q2 : TS_q2) (S_q20 : TS_q20) (neg : Bool) (e : Int) (b : Bool) (b_1 : List Int) (quantum_2 : Int) (q_4 : Bool) (q_5 : List Int) (k0 : Int → Int → Bool) : Bool :=
  (S_q1 q_4 q_5 (fun (nr_3 : Int) => ((fits .i64 (quantum_2 + nr_3)) && ((fits .i64 ((quantum_2 + nr_3) - 1)) && (cond (decide (((quantum_2 + nr_3) - 1) > 1023)) (S_q16 neg (fun (nr_4 : Int) => (k0 nr_4 5))) (S_q1 q_4 q_5 (fun (nr_5 : Int) => (cond (decide (nr_5 < 53)) (S_q2 q_4 q_5 (fun (nr_6 : Int) => (S_q20 neg 0 nr_6 (fun (nr_7 : Int) => (k0 nr_7 0))))) ((fits .i64 (quantum_2 - (-1074))) && ((fits .i64 ((quantum_2 - (-1074)) + 1)) && (S_q2 q_4 q_5 (fun (nr_8 : Int) => (S_q20 neg ((quantum_2 - (-1074)) + 1) (bitsN .and .u64 nr_8 4503599627370495) (fun (nr_9 : Int) => (k0 nr_9 0)))))))))))))))

def J_q131 (N_ : Nat) (S_q1 : TS_q1) (S_q3 : TS_q3) (S_q5 : TS_q5) (S_q17 : TS_q17) (S_q7 : TS_q7) (S_q6 : TS_q6) (S_q0 : TS_q0) (S_q4 : TS_q4) (S_q16 : TS_q16) (S_q2 : TS_q2) (S_q20 : TS_q20) (neg : Bool) (e : Int) (b : Bool) (b_1 : List Int) (top_1 : Int) (quantum_1 : Int) (q_2 : Bool) (q_3 : List Int) (k0 : Int → Int → Bool) : Bool :=
  (S_q1 q_2 q_3 (fun (nr_2 : Int) => (cond (decide (nr_2 > 53)) (S_q4 1 q_2 q_3 (fun (cr_6 : Bool) (nsr_5 : List Int) => ((fits .i64 (quantum_1 + 1)) && (J_q139 N_ S_q1 S_q3 S_q5 S_q17 S_q7 S_q6 S_q0 S_q4 S_q16 S_q2 S_q20 neg e b b_1 (quantum_1 + 1) cr_6 nsr_5 k0)))) (J_q139 N_ S_q1 S_q3 S_q5 S_q17 S_q7 S_q6 S_q0 S_q4 S_q16 S_q2 S_q20 neg e b b_1 quantum_1 q_2 q_3 k0))))

def J_q138 (N_ : Nat) (S_q1 : TS_q1) (S_q3 : TS_q3) (S_q5 : TS_q5) (S_q17 : TS_q17) (S_q7 : TS_q7) (S_q6 : TS_q6) (S_q0 : TS_q0) (S_q4 : TS_q4) (S_q16 : TS_q16) (S_q2 : TS_q2) (S_q20 : TS_q20) (neg : Bool) (e : Int) (b : Bool) (b_1 : List Int) (top : Int) (quantum : Int) (q : Bool) (q_1 : List Int) (k0 : Int → Int → Bool) : Bool :=
  (S_q7 neg (-2) q q_1 (fun (cr_3 : Bool) => (cond cr_3 (S_q6 1 (fun (cr_4 : Bool) (nsr_3 : List Int) => (S_q0 q q_1 cr_4 nsr_3 (fun (cr_5 : Bool) (nsr_4 : List Int) => (J_q131 N_ S_q1 S_q3 S_q5 S_q17 S_q7 S_q6 S_q0 S_q4 S_q16 S_q2 S_q20 neg e b b_1 top quantum cr_5 nsr_4 k0))))) (J_q132 N_ S_q1 S_q3 S_q5 S_q17 S_q7 S_q6 S_q0 S_q4 S_q16 S_q2 S_q20 neg e b b_1 top quantum q q_1 k0))))

def G_q82 (N_ : Nat) (S_q1 : TS_q1) (S_q3 : TS_q3) (S_q5 : TS_q5) (S_q17 : TS_q17) (S_q7 : TS_q7) (S_q6 : TS_q6) (S_q0 : TS_q0) (S_q4 : TS_q4) (S_q16 : TS_q16) (S_q2 : TS_q2) (S_q20 : TS_q20) (neg : Bool) (e : Int) (b : Bool) (b_1 : List Int) (k0 : Int → Int → Bool) : Bool :=
  (S_q1 b b_1 (fun (nr : Int) => ((fits .i64 (e + nr)) && ((fits .i64 ((e + nr) - 1)) && ((fits .i64 (((e + nr) - 1) - 53)) && ((fits .i64 ((((e + nr) - 1) - 53) + 1)) && (S_q3 false b b_1 (fun (cr : Bool) (nsr : List Int) => (cond (decide (e ≥ (imm true ((((e + nr) - 1) - 53) + 1) (-1074)))) ((fits .i64 (e - (imm true ((((e + nr) - 1) - 53) + 1) (-1074)))) && (S_q5 (IntKind.wrap .u64 (e - (imm true ((((e + nr) - 1) - 53) + 1) (-1074)))) cr nsr (fun (cr_1 : Bool) (nsr_1 : List Int) => (J_q138 N_ S_q1 S_q3 S_q5 S_q17 S_q7 S_q6 S_q0 S_q4 S_q16 S_q2 S_q20 neg e b b_1 ((e + nr) - 1) (imm true ((((e + nr) - 1) - 53) + 1) (-1074)) cr_1 nsr_1 k0)))) ((fits .i64 ((imm true ((((e + nr) - 1) - 53) + 1) (-1074)) - e)) && (S_q17 ((imm true ((((e + nr) - 1) - 53) + 1) (-1074)) - e) b b_1 (fun (nr_1 : Int) (cr_2 : Bool) (nsr_2 : List Int) => (J_q141 N_ S_q1 S_q3 S_q5 S_q17 S_q7 S_q6 S_q0 S_q4 S_q16 S_q2 S_q20 neg e b b_1 ((e + nr) - 1) (imm true ((((e + nr) - 1) - 53) + 1) (-1074)) nr_1 cr_2 nsr_2 k0)))))))))))))

def s_q82 (N_ : Nat) : TS_q82 := G_q82 N_ (s_q1 N_) (s_q3 N_) (s_q5 N_) (s_q17 N_) (s_q7 N_) (s_q6 N_) (s_q0 N_) (s_q4 N_) (s_q16 N_) (s_q2 N_) (s_q20 N_)

abbrev TS_q53 : Type := Int → Bool → Int → Bool → List Int → (Int → Int → Bool) → Bool

def G_q53 (N_ : Nat) (S_q104 : TS_q104) (S_q47 : TS_q47) (S_q94 : TS_q94) (S_q99 : TS_q99) (S_q82 : TS_q82) (n_0 : Int) (n_1 : Bool) (n_2 : Int) (b : Bool) (b_1 : List Int) (k0 : Int → Int → Bool) : Bool :=
  (cond (n_0 == 2) (S_q104 (fun (nr : Int) => (k0 nr 0))) (cond (n_0 == 1) (S_q47 n_1 (fun (nr_1 : Int) => (k0 nr_1 0))) (S_q94 n_0 n_1 n_2 b b_1 (fun (cr : Bool) => (cond cr (S_q99 n_1 (fun (nr_2 : Int) => (k0 nr_2 0))) (S_q82 n_1 n_2 b b_1 (fun (nr_3 : Int) (nr_4 : Int) => (k0 nr_3 nr_4))))))))

def s_q53 (N_ : Nat) : TS_q53 := G_q53 N_ (s_q104 N_) (s_q47 N_) (s_q94 N_) (s_q99 N_) (s_q82 N_)

abbrev TS_q83 : Type := Int → Int → (Int → Int → Int → Bool) → Bool

def J_q124 (N_ : Nat) (S_q60 : TS_q60) (S_q40 : TS_q40) (S_q86 : TS_q86) (S_q90 : TS_q90) (S_q53 : TS_q53) (x : Int) (k_ : Int) (b0_1 : Bool) (b0_2 : List Int) (n : Int) (n_1 : Bool) (n_2 : Int) (k0 : Int → Int → Int → Bool) : Bool :=
  (S_q40 (S_q53 n n_1 n_2 b0_1 b0_2 (fun (nr_3 : Int) (nr_4 : Int) => (k0 nr_3 nr_4 0))))

def J_q146 (N_ : Nat) (S_q60 : TS_q60) (S_q40 : TS_q40) (S_q86 : TS_q86) (S_q90 : TS_q90) (S_q53 : TS_q53) (x : Int) (k_ : Int) (b0 : Bool) (k0 : Int → Int → Int → Bool) : Bool :=
  (S_q40 (S_q90 b0 (fun (nr_1 : Int) (nr_2 : Int) => (k0 nr_1 nr_2 0))))

def G_q83 (N_ : Nat) (S_q60 : TS_q60) (S_q40 : TS_q40) (S_q86 : TS_q86) (S_q90 : TS_q90) (S_q53 : TS_q53) (x : Int) (k_ : Int) (k0 : Int → Int → Int → Bool) : Bool :=
  (S_q60 (S_q40 (S_q86 x (fun (cr : Bool) => (J_q146 N_ S_q60 S_q40 S_q86 S_q90 S_q53 x k_ cr k0)) (fun (cr_1 : Bool) (cr_2 : Bool) (nsr : List Int) => (J_q124 N_ S_q60 S_q40 S_q86 S_q90 S_q53 x k_ cr_2 nsr 1 cr_1 (-1074) k0)) (fun (cr_3 : Bool) (nr : Int) (cr_4 : Bool) (nsr_1 : List Int) => ((fits .i64 (nr + (imm true (-5000) (imm false k_ 5000)))) && (J_q124 N_ S_q60 S_q40 S_q86 S_q90 S_q53 x k_ cr_4 nsr_1 0 cr_3 (nr + (imm true (-5000) (imm false k_ 5000))) k0))) (fun (cr_5 : Bool) (cr_6 : Bool) (nsr_2 : List Int) => ((fits .i64 ((-1074) + (imm true (-5000) (imm false k_ 5000)))) && (J_q124 N_ S_q60 S_q40 S_q86 S_q90 S_q53 x k_ cr_6 nsr_2 0 cr_5 ((-1074) + (imm true (-5000) (imm false k_ 5000))) k0))))))

def s_q83 (N_ : Nat) : TS_q83 := G_q83 N_ (s_q60 N_) (s_q40 N_) (s_q86 N_) (s_q90 N_) (s_q53 N_)

abbrev TS_q24 : Type := Fl → Int → (Fl → Bool) → Bool

def G_q24 (N_ : Nat) (S_q48 : TS_q48) (S_q83 : TS_q83) (S_q39 : TS_q39) (x : Fl) (k_ : Int) (k0 : Fl → Bool) : Bool :=
  (S_q48 x (fun (nr : Int) => (S_q83 nr k_ (fun (nr_1 : Int) (nr_2 : Int) (nr_3 : Int) => (S_q39 nr_1 (fun (xr : Fl) => (k0 xr)))))))

def s_q24 (N_ : Nat) : TS_q24 := G_q24 N_ (s_q48 N_) (s_q83 N_) (s_q39 N_)

abbrev TS_q91 : Type := List Fl → List Fl → (Fl → Bool) → Bool

def st_z08_Dot_0 (N_ : Nat) (x_1 : List Fl) (y_1 : List Fl) (e0 : Fl → Bool) : (Fl × Int) → ((Fl × Int) → Bool) → Bool := fun v_ K => match v_ with
  | (s, i) => (cond (decide (i < (((List.length x_1) : Nat) : Int))) ((inR i (List.length x_1)) && ((inR i (List.length y_1)) && ((fits .i64 (i + 1)) && (K ((fadd s (fmul (List.getD x_1 (Int.toNat i) none) (List.getD y_1 (Int.toNat i) none))), (i + 1)))))) (e0 s))

def G_q91 (N_ : Nat) (x : List Fl) (y : List Fl) (k0 : Fl → Bool) : Bool :=
  (iterG N_ (st_z08_Dot_0 N_ x y (fun (s_1 : Fl) => (k0 s_1))) ((some 0), 0))

def s_q91 (N_ : Nat) : TS_q91 := G_q91 N_

abbrev TS_q75 : Type := List Fl → Int → (Fl → List Fl → Bool) → Bool

def st_z10_scaled_0 (N_ : Nat) (S_q24 : TS_q24) (S_q91 : TS_q91) (S_q61 : TS_q61) (x_2 : List Fl) (k__2 : Int) (e0 : List Fl → Bool) : (Int × List Fl) → ((Int × List Fl) → Bool) → Bool := fun v_ K => match v_ with
  | (i_1, y) => (cond (decide (i_1 < (((List.length x_2) : Nat) : Int))) ((inR i_1 (List.length x_2)) && ((fits .i64 (0 - k__2)) && (S_q24 (List.getD x_2 (Int.toNat i_1) none) (0 - k__2) (fun (xr_1 : Fl) => ((decide ((List.length (y ++ [xr_1])) * 8 ≤ 140737488355328)) && ((fits .i64 (i_1 + 1)) && (K ((i_1 + 1), (y ++ [xr_1]))))))))) (e0 y))

def G_q75 (N_ : Nat) (S_q24 : TS_q24) (S_q91 : TS_q91) (S_q61 : TS_q61) (x : List Fl) (k_ : Int) (k0 : Fl → List Fl → Bool) : Bool :=
  (iterG N_ (st_z10_scaled_0 N_ S_q24 S_q91 S_q61 x k_ (fun (y_1 : List Fl) => (S_q91 y_1 y_1 (fun (xr_2 : Fl) => (S_q61 xr_2 (fun (xr_3 : Fl) => (k0 xr_3 y_1))))))) (0, []))

def s_q75 (N_ : Nat) : TS_q75 := G_q75 N_ (s_q24 N_) (s_q91 N_) (s_q61 N_)

abbrev TS_q77 : Type := List Fl → (Fl → Int → Bool) → Bool

def G_q77 (N_ : Nat) (S_q107 : TS_q107) (S_q65 : TS_q65) (S_q75 : TS_q75) (S_q24 : TS_q24) (S_q9 : TS_q9) (x : List Fl) (k0 : Fl → Int → Bool) : Bool :=
  (S_q107 x (fun (nr : Int) => (cond (nr != 0) (k0 (some 0) nr) (S_q65 x (fun (nr_1 : Int) (cr : Bool) => (cond (!cr) (k0 (some 0) 0) (S_q75 x nr_1 (fun (xr : Fl) (xsr : List Fl) => (S_q24 xr nr_1 (fun (xr_1 : Fl) => (S_q9 xr_1 (fun (cr_1 : Bool) => (cond (!cr_1) (k0 (some 0) 5) (k0 xr_1 0))))))))))))))

def s_q77 (N_ : Nat) : TS_q77 := G_q77 N_ (s_q107 N_) (s_q65 N_) (s_q75 N_) (s_q24 N_) (s_q9 N_)

abbrev TS_q76 : Type := Fl → Fl → Fl → (Fl → Fl → Fl → Int → Bool) → Bool

def G_q76 (N_ : Nat) (S_q77 : TS_q77) (v_0 : Fl) (v_1 : Fl) (v_2 : Fl) (k0 : Fl → Fl → Fl → Int → Bool) : Bool :=
  (S_q77 [v_0, v_1, v_2] (fun (xr : Fl) (nr : Int) => (cond (nr != 0) (k0 (some 0) (some 0) (some 0) nr) (k0 (fdiv v_0 xr) (fdiv v_1 xr) (fdiv v_2 xr) 0))))

def s_q76 (N_ : Nat) : TS_q76 := G_q76 N_ (s_q77 N_)

abbrev TS_q43 : Type := Bool → Bool → (Int → Bool) → Bool

def G_q43 (N_ : Nat) (ok_0 : Bool) (ok_1 : Bool) (k0 : Int → Bool) : Bool :=
  (cond (!ok_0) (k0 4) (cond (!ok_1) (k0 4) (k0 0)))

def s_q43 (N_ : Nat) : TS_q43 := G_q43 (N_ + 24)

abbrev TS_q95 : Type := Fl → Fl → Fl → Fl → Fl → Fl → (Fl → Fl → Fl → Bool) → Bool

def G_q95 (N_ : Nat) (a_0 : Fl) (a_1 : Fl) (a_2 : Fl) (b_0 : Fl) (b_1 : Fl) (b_2 : Fl) (k0 : Fl → Fl → Fl → Bool) : Bool :=
  (k0 (fsub (fmul a_1 b_2) (fmul a_2 b_1)) (fsub (fmul a_2 b_0) (fmul a_0 b_2)) (fsub (fmul a_0 b_1) (fmul a_1 b_0)))

def s_q95 (N_ : Nat) : TS_q95 := G_q95 N_

abbrev TS_q73 : Type := Fl → Fl → Fl → (Fl → Fl → Fl → Int → Bool) → Bool

def G_q73 (N_ : Nat) (S_q15 : TS_q15) (v_0 : Fl) (v_1 : Fl) (v_2 : Fl) (k0 : Fl → Fl → Fl → Int → Bool) : Bool :=
  (S_q15 v_0 v_1 v_2 (fun (cr : Bool) => (cond (!cr) (k0 (some 0) (some 0) (some 0) 5) (k0 v_0 v_1 v_2 0))))

def s_q73 (N_ : Nat) : TS_q73 := G_q73 N_ (s_q15 N_)

abbrev TS_q87 : Type := Fl → Fl → Fl → Fl → Fl → Fl → (Fl → Fl → Fl → Int → Bool) → Bool

def G_q87 (N_ : Nat) (S_q15 : TS_q15) (S_q43 : TS_q43) (S_q95 : TS_q95) (S_q73 : TS_q73) (a_0 : Fl) (a_1 : Fl) (a_2 : Fl) (b_0 : Fl) (b_1 : Fl) (b_2 : Fl) (k0 : Fl → Fl → Fl → Int → Bool) : Bool :=
  (S_q15 a_0 a_1 a_2 (fun (cr : Bool) => (S_q15 b_0 b_1 b_2 (fun (cr_1 : Bool) => (S_q43 cr cr_1 (fun (nr : Int) => (cond (nr != 0) (k0 (some 0) (some 0) (some 0) nr) (S_q95 a_0 a_1 a_2 b_0 b_1 b_2 (fun (xr : Fl) (xr_1 : Fl) (xr_2 : Fl) => (S_q73 xr xr_1 xr_2 (fun (xr_3 : Fl) (xr_4 : Fl) (xr_5 : Fl) (nr_1 : Int) => (k0 xr_3 xr_4 xr_5 nr_1))))))))))))

def s_q87 (N_ : Nat) : TS_q87 := G_q87 N_ (s_q15 N_) (s_q43 N_) (s_q95 N_) (s_q73 N_)

abbrev TS_q102 : Type := Fl → Fl → Fl → Fl → Fl → Fl → (Fl → Fl → Fl → Fl → Fl → Fl → Fl → Fl → Fl → Int → Bool) → Bool

def G_q102 (N_ : Nat) (S_q76 : TS_q76) (S_q87 : TS_q87) (S_q21 : TS_q21) (a_0 : Fl) (a_1 : Fl) (a_2 : Fl) (b_0 : Fl) (b_1 : Fl) (b_2 : Fl) (k0 : Fl → Fl → Fl → Fl → Fl → Fl → Fl → Fl → Fl → Int → Bool) : Bool :=
  (S_q76 a_0 a_1 a_2 (fun (xr : Fl) (xr_1 : Fl) (xr_2 : Fl) (nr : Int) => (cond (nr != 0) (k0 (some 0) (some 0) (some 0) (some 0) (some 0) (some 0) (some 0) (some 0) (some 0) nr) (S_q87 xr xr_1 xr_2 b_0 b_1 b_2 (fun (xr_3 : Fl) (xr_4 : Fl) (xr_5 : Fl) (nr_1 : Int) => (cond (nr_1 != 0) (k0 (some 0) (some 0) (some 0) (some 0) (some 0) (some 0) (some 0) (some 0) (some 0) nr_1) (S_q21 xr_3 xr_4 xr_5 (fun (nr_2 : Int) => (cond (nr_2 != 0) (k0 (some 0) (some 0) (some 0) (some 0) (some 0) (some 0) (some 0) (some 0) (some 0) nr_2) (S_q76 xr_3 xr_4 xr_5 (fun (xr_6 : Fl) (xr_7 : Fl) (xr_8 : Fl) (nr_3 : Int) => (cond (nr_3 != 0) (k0 (some 0) (some 0) (some 0) (some 0) (some 0) (some 0) (some 0) (some 0) (some 0) nr_3) (S_q87 xr xr_1 xr_2 xr_6 xr_7 xr_8 (fun (xr_9 : Fl) (xr_10 : Fl) (xr_11 : Fl) (nr_4 : Int) => (cond (nr_4 != 0) (k0 (some 0) (some 0) (some 0) (some 0) (some 0) (some 0) (some 0) (some 0) (some 0) nr_4) (k0 xr xr_1 xr_2 xr_6 xr_7 xr_8 xr_9 xr_10 xr_11 0))))))))))))))))

def s_q102 (N_ : Nat) : TS_q102 := G_q102 N_ (s_q76 N_) (s_q87 N_) (s_q21 N_)

abbrev TS_q105 : Type := Int → Int → (List Fl → Bool) → Bool

def G_q105 (N_ : Nat) (rows : Int) (cols : Int) (k0 : List Fl → Bool) : Bool :=
  ((fits .i64 (rows * cols)) && ((mkOk 8 (rows * cols) (rows * cols)) && (k0 (List.replicate (Int.toNat (rows * cols)) (some 0)))))

def s_q105 (N_ : Nat) : TS_q105 := G_q105 N_

abbrev TS_q51 : Type := Fl → Bool → (Bool → Bool) → Bool

def G_q51 (N_ : Nat) (S_q9 : TS_q9) (x : Fl) (b : Bool) (k0 : Bool → Bool) : Bool :=
  (cond (b == false) (S_q9 x (fun (cr : Bool) => (k0 (!cr)))) (k0 true))

def s_q51 (N_ : Nat) : TS_q51 := G_q51 N_ (s_q9 N_)

abbrev TS_q72 : Type := Int → Int → Int → Int → Fl → List Fl → (List Fl → Bool) → Bool

def G_q72 (N_ : Nat) (m_0 : Int) (m_1 : Int) (i : Int) (j : Int) (x : Fl) (b : List Fl) (k0 : List Fl → Bool) : Bool :=
  ((fits .i64 (i * m_1)) && ((fits .i64 ((i * m_1) + j)) && ((inR ((i * m_1) + j) (List.length b)) && ((decide ((Int.toNat ((i * m_1) + j)) < (List.length b))) && (k0 (List.set b (Int.toNat ((i * m_1) + j)) x))))))

def s_q72 (N_ : Nat) : TS_q72 := G_q72 N_

abbrev TS_q37 : Type := Int → Int → List Fl → (Int → Bool) → Bool

def G_q37 (N_ : Nat) (S_q11 : TS_q11) (m_0 : Int) (m_1 : Int) (m_2 : List Fl) (k0 : Int → Bool) : Bool :=
  (cond ((decide (m_0 < 0)) == false) (cond ((decide (m_0 > 12)) == false) (cond ((decide (m_1 < 0)) == false) (cond (decide (m_1 > 12)) (k0 1) ((fits .i64 (m_0 * m_1)) && (cond ((((List.length m_2) : Nat) : Int) != (m_0 * m_1)) (k0 3) (S_q11 m_2 (fun (cr : Bool) => (cond (!cr) (k0 4) (k0 0))))))) (k0 1)) (k0 1)) (k0 1))

def s_q37 (N_ : Nat) : TS_q37 := G_q37 N_ (s_q11 N_)

abbrev TS_q96 : Type := Bool → Int → (Int → Bool) → Bool

def G_q96 (N_ : Nat) (is : Bool) (e : Int) (k0 : Int → Bool) : Bool :=
  (cond is (k0 e) (k0 0))

def s_q96 (N_ : Nat) : TS_q96 := G_q96 N_

abbrev TS_q32 : Type := List Int → (Int → Bool) → Bool

def st_z08_First_0 (N_ : Nat) (l_1 : List Int) (e0 : Int → Bool) (e1 : Bool) : (Int) → ((Int) → Bool) → Bool := fun v_ K => match v_ with
  | i => (cond (decide (i < (((List.length l_1) : Nat) : Int))) ((inR i (List.length l_1)) && (cond ((List.getD l_1 (Int.toNat i) 0) != 0) ((inR i (List.length l_1)) && (e0 (List.getD l_1 (Int.toNat i) 0))) ((fits .i64 (i + 1)) && (K (i + 1))))) e1)

def G_q32 (N_ : Nat) (l : List Int) (k0 : Int → Bool) : Bool :=
  (iterG N_ (st_z08_First_0 N_ l (fun (t2 : Int) => (k0 t2)) (k0 0)) 0)

def s_q32 (N_ : Nat) : TS_q32 := G_q32 N_

abbrev TS_q62 : Type := Fl → Fl → Fl → Fl → (List Fl → Bool) → Bool

def G_q62 (N_ : Nat) (q_0 : Fl) (q_1 : Fl) (q_2 : Fl) (q_3 : Fl) (k0 : List Fl → Bool) : Bool :=
  (k0 [q_0, q_1, q_2, q_3])

def s_q62 (N_ : Nat) : TS_q62 := G_q62 N_

abbrev TS_q18 : Type := Fl → Fl → Fl → Fl → (Bool → Bool) → Bool

def G_q18 (N_ : Nat) (S_q62 : TS_q62) (S_q11 : TS_q11) (q_0 : Fl) (q_1 : Fl) (q_2 : Fl) (q_3 : Fl) (k0 : Bool → Bool) : Bool :=
  (S_q62 q_0 q_1 q_2 q_3 (fun (xsr : List Fl) => (S_q11 xsr (fun (cr : Bool) => (k0 cr)))))

def s_q18 (N_ : Nat) : TS_q18 := G_q18 N_ (s_q62 N_) (s_q11 N_)

abbrev TS_q35 : Type := Bool → (Int → Bool) → Bool

def G_q35 (N_ : Nat) (ok : Bool) (k0 : Int → Bool) : Bool :=
  (cond (!ok) (k0 4) (k0 0))

def s_q35 (N_ : Nat) : TS_q35 := G_q35 (N_ + 24)

abbrev TS_q119 : Type := List Fl → (Fl → Fl → Fl → Fl → Bool) → Bool

def G_q119 (N_ : Nat) (l : List Fl) (k0 : Fl → Fl → Fl → Fl → Bool) : Bool :=
  ((inR 0 (List.length l)) && ((inR 1 (List.length l)) && ((inR 2 (List.length l)) && ((inR 3 (List.length l)) && (k0 (List.getD l 0 none) (List.getD l 1 none) (List.getD l 2 none) (List.getD l 3 none))))))

def s_q119 (N_ : Nat) : TS_q119 := G_q119 N_

abbrev TS_q50 : Type := Fl → Fl → Fl → Fl → (Fl → Fl → Fl → Fl → Int → Bool) → Bool

def G_q50 (N_ : Nat) (S_q18 : TS_q18) (S_q35 : TS_q35) (S_q62 : TS_q62) (S_q65 : TS_q65) (S_q24 : TS_q24) (S_q61 : TS_q61) (S_q119 : TS_q119) (q_0 : Fl) (q_1 : Fl) (q_2 : Fl) (q_3 : Fl) (k0 : Fl → Fl → Fl → Fl → Int → Bool) : Bool :=
  (S_q18 q_0 q_1 q_2 q_3 (fun (cr : Bool) => (S_q35 cr (fun (nr : Int) => (cond (nr != 0) (k0 (some 0) (some 0) (some 0) (some 0) nr) (S_q62 q_0 q_1 q_2 q_3 (fun (xsr : List Fl) => (S_q65 xsr (fun (nr_1 : Int) (cr_1 : Bool) => (cond (!cr_1) (k0 (some 0) (some 0) (some 0) (some 0) 120) ((inR 0 (List.length xsr)) && ((decide (0 < (List.length xsr))) && ((fits .i64 (0 - nr_1)) && (S_q24 (List.getD xsr 0 none) (0 - nr_1) (fun (xr : Fl) => ((inR 0 (List.length xsr)) && ((decide (0 < (List.length xsr))) && ((inR 1 (List.length (List.set xsr 0 xr))) && ((decide (1 < (List.length (List.set xsr 0 xr)))) && ((fits .i64 (0 - nr_1)) && (S_q24 (List.getD (List.set xsr 0 xr) 1 none) (0 - nr_1) (fun (xr_1 : Fl) => ((inR 1 (List.length (List.set xsr 0 xr))) && ((decide (1 < (List.length (List.set xsr 0 xr)))) && ((inR 2 (List.length (List.set (List.set xsr 0 xr) 1 xr_1))) && ((decide (2 < (List.length (List.set (List.set xsr 0 xr) 1 xr_1)))) && ((fits .i64 (0 - nr_1)) && (S_q24 (List.getD (List.set (List.set xsr 0 xr) 1 xr_1) 2 none) (0 - nr_1) (fun (xr_2 : Fl) => ((inR 2 (List.length (List.set (List.set xsr 0 xr) 1 xr_1))) && ((decide (2 < (List.length (List.set (List.set xsr 0 xr) 1 xr_1)))) && ((inR 3 (List.length (List.set (List.set (List.set xsr 0 xr) 1 xr_1) 2 xr_2))) && ((decide (3 < (List.length (List.set (List.set (List.set xsr 0 xr) 1 xr_1) 2 xr_2)))) && ((fits .i64 (0 - nr_1)) && (S_q24 (List.getD (List.set (List.set (List.set xsr 0 xr) 1 xr_1) 2 xr_2) 3 none) (0 - nr_1) (fun (xr_3 : Fl) => ((inR 3 (List.length (List.set (List.set (List.set xsr 0 xr) 1 xr_1) 2 xr_2))) && ((decide (3 < (List.length (List.set (List.set (List.set xsr 0 xr) 1 xr_1) 2 xr_2)))) && ((inR 0 (List.length (List.set (List.set (List.set (List.set xsr 0 xr) 1 xr_1) 2 xr_2) 3 xr_3))) && ((decide (0 < (List.length (List.set (List.set (List.set (List.set xsr 0 xr) 1 xr_1) 2 xr_2) 3 xr_3)))) && ((inR 0 (List.length (List.set (List.set (List.set (List.set xsr 0 xr) 1 xr_1) 2 xr_2) 3 xr_3))) && ((decide (0 < (List.length (List.set (List.set (List.set (List.set xsr 0 xr) 1 xr_1) 2 xr_2) 3 xr_3)))) && ((inR 1 (List.length (List.set (List.set (List.set (List.set xsr 0 xr) 1 xr_1) 2 xr_2) 3 xr_3))) && ((decide (1 < (List.length (List.set (List.set (List.set (List.set xsr 0 xr) 1 xr_1) 2 xr_2) 3 xr_3)))) && ((inR 1 (List.length (List.set (List.set (List.set (List.set xsr 0 xr) 1 xr_1) 2 xr_2) 3 xr_3))) && ((decide (1 < (List.length (List.set (List.set (List.set (List.set xsr 0 xr) 1 xr_1) 2 xr_2) 3 xr_3)))) && ((inR 2 (List.length (List.set (List.set (List.set (List.set xsr 0 xr) 1 xr_1) 2 xr_2) 3 xr_3))) && ((decide (2 < (List.length (List.set (List.set (List.set (List.set xsr 0 xr) 1 xr_1) 2 xr_2) 3 xr_3)))) && ((inR 2 (List.length (List.set (List.set (List.set (List.set xsr 0 xr) 1 xr_1) 2 xr_2) 3 xr_3))) && ((decide (2 < (List.length (List.set (List.set (List.set (List.set xsr 0 xr) 1 xr_1) 2 xr_2) 3 xr_3)))) && ((inR 3 (List.length (List.set (List.set (List.set (List.set xsr 0 xr) 1 xr_1) 2 xr_2) 3 xr_3))) && ((decide (3 < (List.length (List.set (List.set (List.set (List.set xsr 0 xr) 1 xr_1) 2 xr_2) 3 xr_3)))) && ((inR 3 (List.length (List.set (List.set (List.set (List.set xsr 0 xr) 1 xr_1) 2 xr_2) 3 xr_3))) && ((decide (3 < (List.length (List.set (List.set (List.set (List.set xsr 0 xr) 1 xr_1) 2 xr_2) 3 xr_3)))) && (S_q61 (fadd (fadd (fadd (fmul (List.getD (List.set (List.set (List.set (List.set xsr 0 xr) 1 xr_1) 2 xr_2) 3 xr_3) 0 none) (List.getD (List.set (List.set (List.set (List.set xsr 0 xr) 1 xr_1) 2 xr_2) 3 xr_3) 0 none)) (fmul (List.getD (List.set (List.set (List.set (List.set xsr 0 xr) 1 xr_1) 2 xr_2) 3 xr_3) 1 none) (List.getD (List.set (List.set (List.set (List.set xsr 0 xr) 1 xr_1) 2 xr_2) 3 xr_3) 1 none))) (fmul (List.getD (List.set (List.set (List.set (List.set xsr 0 xr) 1 xr_1) 2 xr_2) 3 xr_3) 2 none) (List.getD (List.set (List.set (List.set (List.set xsr 0 xr) 1 xr_1) 2 xr_2) 3 xr_3) 2 none))) (fmul (List.getD (List.set (List.set (List.set (List.set xsr 0 xr) 1 xr_1) 2 xr_2) 3 xr_3) 3 none) (List.getD (List.set (List.set (List.set (List.set xsr 0 xr) 1 xr_1) 2 xr_2) 3 xr_3) 3 none))) (fun (xr_4 : Fl) => ((inR 0 (List.length (List.set (List.set (List.set (List.set xsr 0 xr) 1 xr_1) 2 xr_2) 3 xr_3))) && ((decide (0 < (List.length (List.set (List.set (List.set (List.set xsr 0 xr) 1 xr_1) 2 xr_2) 3 xr_3)))) && ((inR 0 (List.length (List.set (List.set (List.set (List.set xsr 0 xr) 1 xr_1) 2 xr_2) 3 xr_3))) && ((decide (0 < (List.length (List.set (List.set (List.set (List.set xsr 0 xr) 1 xr_1) 2 xr_2) 3 xr_3)))) && ((inR 1 (List.length (List.set (List.set (List.set (List.set (List.set xsr 0 xr) 1 xr_1) 2 xr_2) 3 xr_3) 0 (fdiv (List.getD (List.set (List.set (List.set (List.set xsr 0 xr) 1 xr_1) 2 xr_2) 3 xr_3) 0 none) xr_4)))) && ((decide (1 < (List.length (List.set (List.set (List.set (List.set (List.set xsr 0 xr) 1 xr_1) 2 xr_2) 3 xr_3) 0 (fdiv (List.getD (List.set (List.set (List.set (List.set xsr 0 xr) 1 xr_1) 2 xr_2) 3 xr_3) 0 none) xr_4))))) && ((inR 1 (List.length (List.set (List.set (List.set (List.set (List.set xsr 0 xr) 1 xr_1) 2 xr_2) 3 xr_3) 0 (fdiv (List.getD (List.set (List.set (List.set (List.set xsr 0 xr) 1 xr_1) 2 xr_2) 3 xr_3) 0 none) xr_4)))) && ((decide (1 < (List.length (List.set (List.set (List.set (List.set (List.set xsr 0 xr) 1 xr_1) 2 xr_2) 3 xr_3) 0 (fdiv (List.getD (List.set (List.set (List.set (List.set xsr 0 xr) 1 xr_1) 2 xr_2) 3 xr_3) 0 none) xr_4))))) && ((inR 2 (List.length (List.set (List.set (List.set (List.set (List.set (List.set xsr 0 xr) 1 xr_1) 2 xr_2) 3 xr_3) 0 (fdiv (List.getD (List.set (List.set (List.set (List.set xsr 0 xr) 1 xr_1) 2 xr_2) 3 xr_3) 0 none) xr_4)) 1 (fdiv (List.getD (List.set (List.set (List.set (List.set (List.set xsr 0 xr) 1 xr_1) 2 xr_2) 3 xr_3) 0 (fdiv (List.getD (List.set (List.set (List.set (List.set xsr 0 xr) 1 xr_1) 2 xr_2) 3 xr_3) 0 none) xr_4)) 1 none) xr_4)))) && ((decide (2 < (List.length (List.set (List.set (List.set (List.set (List.set (List.set xsr 0 xr) 1 xr_1) 2 xr_2) 3 xr_3) 0 (fdiv (List.getD (List.set (List.set (List.set (List.set xsr 0 xr) 1 xr_1) 2 xr_2) 3 xr_3) 0 none) xr_4)) 1 (fdiv (List.getD (List.set (List.set (List.set (List.set (List.set xsr 0 xr) 1 xr_1) 2 xr_2) 3 xr_3) 0 (fdiv (List.getD (List.set (List.set (List.set (List.set xsr 0 xr) 1 xr_1) 2 xr_2) 3 xr_3) 0 none) xr_4)) 1 none) xr_4))))) && ((inR 2 (List.length (List.set (List.set (List.set (List.set (List.set (List.set xsr 0 xr) 1 xr_1) 2 xr_2) 3 xr_3) 0 (fdiv (List.getD (List.set (List.set (List.set (List.set xsr 0 xr) 1 xr_1) 2 xr_2) 3 xr_3) 0 none) xr_4)) 1 (fdiv (List.getD (List.set (List.set (List.set (List.set (List.set xsr 0 xr) 1 xr_1) 2 xr_2) 3 xr_3) 0 (fdiv (List.getD (List.set (List.set (List.set (List.set xsr 0 xr) 1 xr_1) 2 xr_2) 3 xr_3) 0 none) xr_4)) 1 none) xr_4)))) && ((decide (2 < (List.length (List.set (List.set (List.set (List.set (List.set (List.set xsr 0 xr) 1 xr_1) 2 xr_2) 3 xr_3) 0 (fdiv (List.getD (List.set (List.set (List.set (List.set xsr 0 xr) 1 xr_1) 2 xr_2) 3 xr_3) 0 none) xr_4)) 1 (fdiv (List.getD (List.set (List.set (List.set (List.set (List.set xsr 0 xr) 1 xr_1) 2 xr_2) 3 xr_3) 0 (fdiv (List.getD (List.set (List.set (List.set (List.set xsr 0 xr) 1 xr_1) 2 xr_2) 3 xr_3) 0 none) xr_4)) 1 none) xr_4))))) && ((inR 3 (List.length (List.set (List.set (List.set (List.set (List.set (List.set (List.set xsr 0 xr) 1 xr_1) 2 xr_2) 3 xr_3) 0 (fdiv (List.getD (List.set (List.set (List.set (List.set xsr 0 xr) 1 xr_1) 2 xr_2) 3 xr_3) 0 none) xr_4)) 1 (fdiv (List.getD (List.set (List.set (List.set (List.set (List.set xsr 0 xr) 1 xr_1) 2 xr_2) 3 xr_3) 0 (fdiv (List.getD (List.set (List.set (List.set (List.set xsr 0 xr) 1 xr_1) 2 xr_2) 3 xr_3) 0 none) xr_4)) 1 none) xr_4)) 2 (fdiv (List.getD (List.set (List.set (List.set (List.set (List.set (List.set xsr 0 xr) 1 xr_1) 2 xr_2) 3 xr_3) 0 (fdiv (List.getD (List.set (List.set (List.set (List.set xsr 0 xr) 1 xr_1) 2 xr_2) 3 xr_3) 0 none) xr_4)) 1 (fdiv (List.getD (List.set (List.set (List.set (List.set (List.set xsr 0 xr) 1 xr_1) 2 xr_2) 3 xr_3) 0 (fdiv (List.getD (List.set (List.set (List.set (List.set xsr 0 xr) 1 xr_1) 2 xr_2) 3 xr_3) 0 none) xr_4)) 1 none) xr_4)) 2 none) xr_4)))) && ((decide (3 < (List.length (List.set (List.set (List.set (List.set (List.set (List.set (List.set xsr 0 xr) 1 xr_1) 2 xr_2) 3 xr_3) 0 (fdiv (List.getD (List.set (List.set (List.set (List.set xsr 0 xr) 1 xr_1) 2 xr_2) 3 xr_3) 0 none) xr_4)) 1 (fdiv (List.getD (List.set (List.set (List.set (List.set (List.set xsr 0 xr) 1 xr_1) 2 xr_2) 3 xr_3) 0 (fdiv (List.getD (List.set (List.set (List.set (List.set xsr 0 xr) 1 xr_1) 2 xr_2) 3 xr_3) 0 none) xr_4)) 1 none) xr_4)) 2 (fdiv (List.getD (List.set (List.set (List.set (List.set (List.set (List.set xsr 0 xr) 1 xr_1) 2 xr_2) 3 xr_3) 0 (fdiv (List.getD (List.set (List.set (List.set (List.set xsr 0 xr) 1 xr_1) 2 xr_2) 3 xr_3) 0 none) xr_4)) 1 (fdiv (List.getD (List.set (List.set (List.set (List.set (List.set xsr 0 xr) 1 xr_1) 2 xr_2) 3 xr_3) 0 (fdiv (List.getD (List.set (List.set (List.set (List.set xsr 0 xr) 1 xr_1) 2 xr_2) 3 xr_3) 0 none) xr_4)) 1 none) xr_4)) 2 none) xr_4))))) && ((inR 3 (List.length (List.set (List.set (List.set (List.set (List.set (List.set (List.set xsr 0 xr) 1 xr_1) 2 xr_2) 3 xr_3) 0 (fdiv (List.getD (List.set (List.set (List.set (List.set xsr 0 xr) 1 xr_1) 2 xr_2) 3 xr_3) 0 none) xr_4)) 1 (fdiv (List.getD (List.set (List.set (List.set (List.set (List.set xsr 0 xr) 1 xr_1) 2 xr_2) 3 xr_3) 0 (fdiv (List.getD (List.set (List.set (List.set (List.set xsr 0 xr) 1 xr_1) 2 xr_2) 3 xr_3) 0 none) xr_4)) 1 none) xr_4)) 2 (fdiv (List.getD (List.set (List.set (List.set (List.set (List.set (List.set xsr 0 xr) 1 xr_1) 2 xr_2) 3 xr_3) 0 (fdiv (List.getD (List.set (List.set (List.set (List.set xsr 0 xr) 1 xr_1) 2 xr_2) 3 xr_3) 0 none) xr_4)) 1 (fdiv (List.getD (List.set (List.set (List.set (List.set (List.set xsr 0 xr) 1 xr_1) 2 xr_2) 3 xr_3) 0 (fdiv (List.getD (List.set (List.set (List.set (List.set xsr 0 xr) 1 xr_1) 2 xr_2) 3 xr_3) 0 none) xr_4)) 1 none) xr_4)) 2 none) xr_4)))) && ((decide (3 < (List.length (List.set (List.set (List.set (List.set (List.set (List.set (List.set xsr 0 xr) 1 xr_1) 2 xr_2) 3 xr_3) 0 (fdiv (List.getD (List.set (List.set (List.set (List.set xsr 0 xr) 1 xr_1) 2 xr_2) 3 xr_3) 0 none) xr_4)) 1 (fdiv (List.getD (List.set (List.set (List.set (List.set (List.set xsr 0 xr) 1 xr_1) 2 xr_2) 3 xr_3) 0 (fdiv (List.getD (List.set (List.set (List.set (List.set xsr 0 xr) 1 xr_1) 2 xr_2) 3 xr_3) 0 none) xr_4)) 1 none) xr_4)) 2 (fdiv (List.getD (List.set (List.set (List.set (List.set (List.set (List.set xsr 0 xr) 1 xr_1) 2 xr_2) 3 xr_3) 0 (fdiv (List.getD (List.set (List.set (List.set (List.set xsr 0 xr) 1 xr_1) 2 xr_2) 3 xr_3) 0 none) xr_4)) 1 (fdiv (List.getD (List.set (List.set (List.set (List.set (List.set xsr 0 xr) 1 xr_1) 2 xr_2) 3 xr_3) 0 (fdiv (List.getD (List.set (List.set (List.set (List.set xsr 0 xr) 1 xr_1) 2 xr_2) 3 xr_3) 0 none) xr_4)) 1 none) xr_4)) 2 none) xr_4))))) && (S_q119 (List.set (List.set (List.set (List.set (List.set (List.set (List.set (List.set xsr 0 xr) 1 xr_1) 2 xr_2) 3 xr_3) 0 (fdiv (List.getD (List.set (List.set (List.set (List.set xsr 0 xr) 1 xr_1) 2 xr_2) 3 xr_3) 0 none) xr_4)) 1 (fdiv (List.getD (List.set (List.set (List.set (List.set (List.set xsr 0 xr) 1 xr_1) 2 xr_2) 3 xr_3) 0 (fdiv (List.getD (List.set (List.set (List.set (List.set xsr 0 xr) 1 xr_1) 2 xr_2) 3 xr_3) 0 none) xr_4)) 1 none) xr_4)) 2 (fdiv (List.getD (List.set (List.set (List.set (List.set (List.set (List.set xsr 0 xr) 1 xr_1) 2 xr_2) 3 xr_3) 0 (fdiv (List.getD (List.set (List.set (List.set (List.set xsr 0 xr) 1 xr_1) 2 xr_2) 3 xr_3) 0 none) xr_4)) 1 (fdiv (List.getD (List.set (List.set (List.set (List.set (List.set xsr 0 xr) 1 xr_1) 2 xr_2) 3 xr_3) 0 (fdiv (List.getD (List.set (List.set (List.set (List.set xsr 0 xr) 1 xr_1) 2 xr_2) 3 xr_3) 0 none) xr_4)) 1 none) xr_4)) 2 none) xr_4)) 3 (fdiv (List.getD (List.set (List.set (List.set (List.set (List.set (List.set (List.set xsr 0 xr) 1 xr_1) 2 xr_2) 3 xr_3) 0 (fdiv (List.getD (List.set (List.set (List.set (List.set xsr 0 xr) 1 xr_1) 2 xr_2) 3 xr_3) 0 none) xr_4)) 1 (fdiv (List.getD (List.set (List.set (List.set (List.set (List.set xsr 0 xr) 1 xr_1) 2 xr_2) 3 xr_3) 0 (fdiv (List.getD (List.set (List.set (List.set (List.set xsr 0 xr) 1 xr_1) 2 xr_2) 3 xr_3) 0 none) xr_4)) 1 none) xr_4)) 2 (fdiv (List.getD (List.set (List.set (List.set (List.set (List.set (List.set xsr 0 xr) 1 xr_1) 2 xr_2) 3 xr_3) 0 (fdiv (List.getD (List.set (List.set (List.set (List.set xsr 0 xr) 1 xr_1) 2 xr_2) 3 xr_3) 0 none) xr_4)) 1 (fdiv (List.getD (List.set (List.set (List.set (List.set (List.set xsr 0 xr) 1 xr_1) 2 xr_2) 3 xr_3) 0 (fdiv (List.getD (List.set (List.set (List.set (List.set xsr 0 xr) 1 xr_1) 2 xr_2) 3 xr_3) 0 none) xr_4)) 1 none) xr_4)) 2 none) xr_4)) 3 none) xr_4)) (fun (xr_5 : Fl) (xr_6 : Fl) (xr_7 : Fl) (xr_8 : Fl) => (k0 xr_5 xr_6 xr_7 xr_8 0)))))))))))))))))))))))))))))))))))))))))))))))))))))))))))))))))))))))))))

def s_q50 (N_ : Nat) : TS_q50 := G_q50 (N_ + 24) (s_q18 N_) (s_q35 N_) (s_q62 N_) (s_q65 N_) (s_q24 N_) (s_q61 N_) (s_q119 N_)

abbrev TS_q89 : Type := Int → Int → List Fl → (Fl → Fl → Fl → Fl → Int → Bool) → Bool

def J_q110 (N_ : Nat) (S_q37 : TS_q37) (S_q96 : TS_q96) (S_q32 : TS_q32) (S_q18 : TS_q18) (S_q9 : TS_q9) (S_q50 : TS_q50) (m_0 : Int) (m_1 : Int) (m_2 : List Fl) (t : Fl) (q : Fl) (q_1 : Fl) (q_2 : Fl) (q_3 : Fl) (k0 : Fl → Fl → Fl → Fl → Int → Bool) : Bool :=
  (S_q18 q q_1 q_2 q_3 (fun (cr : Bool) => (cond ((!cr) == false) (S_q9 t (fun (cr_1 : Bool) => (cond (!cr_1) (k0 (some 0) (some 0) (some 0) (some 0) 5) (S_q50 q q_1 q_2 q_3 (fun (xr : Fl) (xr_1 : Fl) (xr_2 : Fl) (xr_3 : Fl) (nr_5 : Int) => (k0 xr xr_1 xr_2 xr_3 nr_5)))))) (k0 (some 0) (some 0) (some 0) (some 0) 5))))

def J_q135 (N_ : Nat) (S_q37 : TS_q37) (S_q96 : TS_q96) (S_q32 : TS_q32) (S_q18 : TS_q18) (S_q9 : TS_q9) (S_q50 : TS_q50) (m_0 : Int) (m_1 : Int) (m_2 : List Fl) (k0 : Fl → Fl → Fl → Fl → Int → Bool) : Bool :=
  ((inR 0 (List.length m_2)) && ((inR 4 (List.length m_2)) && ((inR 8 (List.length m_2)) && (cond ((fge (fadd (fadd (List.getD m_2 0 none) (List.getD m_2 4 none)) (List.getD m_2 8 none)) (List.getD m_2 0 none)) == true) (cond ((fge (fadd (fadd (List.getD m_2 0 none) (List.getD m_2 4 none)) (List.getD m_2 8 none)) (List.getD m_2 4 none)) == true) (cond (fge (fadd (fadd (List.getD m_2 0 none) (List.getD m_2 4 none)) (List.getD m_2 8 none)) (List.getD m_2 8 none)) ((inR 7 (List.length m_2)) && ((inR 5 (List.length m_2)) && ((inR 2 (List.length m_2)) && ((inR 6 (List.length m_2)) && ((inR 3 (List.length m_2)) && ((inR 1 (List.length m_2)) && (J_q110 N_ S_q37 S_q96 S_q32 S_q18 S_q9 S_q50 m_0 m_1 m_2 (fadd (fadd (List.getD m_2 0 none) (List.getD m_2 4 none)) (List.getD m_2 8 none)) (fadd (some 4607182418800017408) (fadd (fadd (List.getD m_2 0 none) (List.getD m_2 4 none)) (List.getD m_2 8 none))) (fsub (List.getD m_2 7 none) (List.getD m_2 5 none)) (fsub (List.getD m_2 2 none) (List.getD m_2 6 none)) (fsub (List.getD m_2 3 none) (List.getD m_2 1 none)) k0))))))) (cond ((fge (List.getD m_2 0 none) (List.getD m_2 4 none)) == true) (cond (fge (List.getD m_2 0 none) (List.getD m_2 8 none)) ((inR 7 (List.length m_2)) && ((inR 5 (List.length m_2)) && ((inR 1 (List.length m_2)) && ((inR 3 (List.length m_2)) && ((inR 2 (List.length m_2)) && ((inR 6 (List.length m_2)) && (J_q110 N_ S_q37 S_q96 S_q32 S_q18 S_q9 S_q50 m_0 m_1 m_2 (fadd (fadd (List.getD m_2 0 none) (List.getD m_2 4 none)) (List.getD m_2 8 none)) (fsub (List.getD m_2 7 none) (List.getD m_2 5 none)) (fsub (fsub (fadd (some 4607182418800017408) (List.getD m_2 0 none)) (List.getD m_2 4 none)) (List.getD m_2 8 none)) (fadd (List.getD m_2 1 none) (List.getD m_2 3 none)) (fadd (List.getD m_2 2 none) (List.getD m_2 6 none)) k0))))))) (cond (fge (List.getD m_2 4 none) (List.getD m_2 8 none)) ((inR 2 (List.length m_2)) && ((inR 6 (List.length m_2)) && ((inR 1 (List.length m_2)) && ((inR 3 (List.length m_2)) && ((inR 5 (List.length m_2)) && ((inR 7 (List.length m_2)) && (J_q110 N_ S_q37 S_q96 S_q32 S_q18 S_q9 S_q50 m_0 m_1 m_2 (fadd (fadd (List.getD m_2 0 none) (List.getD m_2 4 none)) (List.getD m_2 8 none)) (fsub (List.getD m_2 2 none) (List.getD m_2 6 none)) (fadd (List.getD m_2 1 none) (List.getD m_2 3 none)) (fsub (fadd (fsub (some 4607182418800017408) (List.getD m_2 0 none)) (List.getD m_2 4 none)) (List.getD m_2 8 none)) (fadd (List.getD m_2 5 none) (List.getD m_2 7 none)) k0))))))) ((inR 3 (List.length m_2)) && ((inR 1 (List.length m_2)) && ((inR 2 (List.length m_2)) && ((inR 6 (List.length m_2)) && ((inR 5 (List.length m_2)) && ((inR 7 (List.length m_2)) && (J_q110 N_ S_q37 S_q96 S_q32 S_q18 S_q9 S_q50 m_0 m_1 m_2 (fadd (fadd (List.getD m_2 0 none) (List.getD m_2 4 none)) (List.getD m_2 8 none)) (fsub (List.getD m_2 3 none) (List.getD m_2 1 none)) (fadd (List.getD m_2 2 none) (List.getD m_2 6 none)) (fadd (List.getD m_2 5 none) (List.getD m_2 7 none)) (fadd (fsub (fsub (some 4607182418800017408) (List.getD m_2 0 none)) (List.getD m_2 4 none)) (List.getD m_2 8 none)) k0))))))))) (cond (fge (List.getD m_2 4 none) (List.getD m_2 8 none)) ((inR 2 (List.length m_2)) && ((inR 6 (List.length m_2)) && ((inR 1 (List.length m_2)) && ((inR 3 (List.length m_2)) && ((inR 5 (List.length m_2)) && ((inR 7 (List.length m_2)) && (J_q110 N_ S_q37 S_q96 S_q32 S_q18 S_q9 S_q50 m_0 m_1 m_2 (fadd (fadd (List.getD m_2 0 none) (List.getD m_2 4 none)) (List.getD m_2 8 none)) (fsub (List.getD m_2 2 none) (List.getD m_2 6 none)) (fadd (List.getD m_2 1 none) (List.getD m_2 3 none)) (fsub (fadd (fsub (some 4607182418800017408) (List.getD m_2 0 none)) (List.getD m_2 4 none)) (List.getD m_2 8 none)) (fadd (List.getD m_2 5 none) (List.getD m_2 7 none)) k0))))))) ((inR 3 (List.length m_2)) && ((inR 1 (List.length m_2)) && ((inR 2 (List.length m_2)) && ((inR 6 (List.length m_2)) && ((inR 5 (List.length m_2)) && ((inR 7 (List.length m_2)) && (J_q110 N_ S_q37 S_q96 S_q32 S_q18 S_q9 S_q50 m_0 m_1 m_2 (fadd (fadd (List.getD m_2 0 none) (List.getD m_2 4 none)) (List.getD m_2 8 none)) (fsub (List.getD m_2 3 none) (List.getD m_2 1 none)) (fadd (List.getD m_2 2 none) (List.getD m_2 6 none)) (fadd (List.getD m_2 5 none) (List.getD m_2 7 none)) (fadd (fsub (fsub (some 4607182418800017408) (List.getD m_2 0 none)) (List.getD m_2 4 none)) (List.getD m_2 8 none)) k0)))))))))) (cond ((fge (List.getD m_2 0 none) (List.getD m_2 4 none)) == true) (cond (fge (List.getD m_2 0 none) (List.getD m_2 8 none)) ((inR 7 (List.length m_2)) && ((inR 5 (List.length m_2)) && ((inR 1 (List.length m_2)) && ((inR 3 (List.length m_2)) && ((inR 2 (List.length m_2)) && ((inR 6 (List.length m_2)) && (J_q110 N_ S_q37 S_q96 S_q32 S_q18 S_q9 S_q50 m_0 m_1 m_2 (fadd (fadd (List.getD m_2 0 none) (List.getD m_2 4 none)) (List.getD m_2 8 none)) (fsub (List.getD m_2 7 none) (List.getD m_2 5 none)) (fsub (fsub (fadd (some 4607182418800017408) (List.getD m_2 0 none)) (List.getD m_2 4 none)) (List.getD m_2 8 none)) (fadd (List.getD m_2 1 none) (List.getD m_2 3 none)) (fadd (List.getD m_2 2 none) (List.getD m_2 6 none)) k0))))))) (cond (fge (List.getD m_2 4 none) (List.getD m_2 8 none)) ((inR 2 (List.length m_2)) && ((inR 6 (List.length m_2)) && ((inR 1 (List.length m_2)) && ((inR 3 (List.length m_2)) && ((inR 5 (List.length m_2)) && ((inR 7 (List.length m_2)) && (J_q110 N_ S_q37 S_q96 S_q32 S_q18 S_q9 S_q50 m_0 m_1 m_2 (fadd (fadd (List.getD m_2 0 none) (List.getD m_2 4 none)) (List.getD m_2 8 none)) (fsub (List.getD m_2 2 none) (List.getD m_2 6 none)) (fadd (List.getD m_2 1 none) (List.getD m_2 3 none)) (fsub (fadd (fsub (some 4607182418800017408) (List.getD m_2 0 none)) (List.getD m_2 4 none)) (List.getD m_2 8 none)) (fadd (List.getD m_2 5 none) (List.getD m_2 7 none)) k0))))))) ((inR 3 (List.length m_2)) && ((inR 1 (List.length m_2)) && ((inR 2 (List.length m_2)) && ((inR 6 (List.length m_2)) && ((inR 5 (List.length m_2)) && ((inR 7 (List.length m_2)) && (J_q110 N_ S_q37 S_q96 S_q32 S_q18 S_q9 S_q50 m_0 m_1 m_2 (fadd (fadd (List.getD m_2 0 none) (List.getD m_2 4 none)) (List.getD m_2 8 none)) (fsub (List.getD m_2 3 none) (List.getD m_2 1 none)) (fadd (List.getD m_2 2 none) (List.getD m_2 6 none)) (fadd (List.getD m_2 5 none) (List.getD m_2 7 none)) (fadd (fsub (fsub (some 4607182418800017408) (List.getD m_2 0 none)) (List.getD m_2 4 none)) (List.getD m_2 8 none)) k0))))))))) (cond (fge (List.getD m_2 4 none) (List.getD m_2 8 none)) ((inR 2 (List.length m_2)) && ((inR 6 (List.length m_2)) && ((inR 1 (List.length m_2)) && ((inR 3 (List.length m_2)) && ((inR 5 (List.length m_2)) && ((inR 7 (List.length m_2)) && (J_q110 N_ S_q37 S_q96 S_q32 S_q18 S_q9 S_q50 m_0 m_1 m_2 (fadd (fadd (List.getD m_2 0 none) (List.getD m_2 4 none)) (List.getD m_2 8 none)) (fsub (List.getD m_2 2 none) (List.getD m_2 6 none)) (fadd (List.getD m_2 1 none) (List.getD m_2 3 none)) (fsub (fadd (fsub (some 4607182418800017408) (List.getD m_2 0 none)) (List.getD m_2 4 none)) (List.getD m_2 8 none)) (fadd (List.getD m_2 5 none) (List.getD m_2 7 none)) k0))))))) ((inR 3 (List.length m_2)) && ((inR 1 (List.length m_2)) && ((inR 2 (List.length m_2)) && ((inR 6 (List.length m_2)) && ((inR 5 (List.length m_2)) && ((inR 7 (List.length m_2)) && (J_q110 N_ S_q37 S_q96 S_q32 S_q18 S_q9 S_q50 m_0 m_1 m_2 (fadd (fadd (List.getD m_2 0 none) (List.getD m_2 4 none)) (List.getD m_2 8 none)) (fsub (List.getD m_2 3 none) (List.getD m_2 1 none)) (fadd (List.getD m_2 2 none) (List.getD m_2 6 none)) (fadd (List.getD m_2 5 none) (List.getD m_2 7 none)) (fadd (fsub (fsub (some 4607182418800017408) (List.getD m_2 0 none)) (List.getD m_2 4 none)) (List.getD m_2 8 none)) k0)))))))))) (cond ((fge (List.getD m_2 0 none) (List.getD m_2 4 none)) == true) (cond (fge (List.getD m_2 0 none) (List.getD m_2 8 none)) ((inR 7 (List.length m_2)) && ((inR 5 (List.length m_2)) && ((inR 1 (List.length m_2)) && ((inR 3 (List.length m_2)) && ((inR 2 (List.length m_2)) && ((inR 6 (List.length m_2)) && (J_q110 N_ S_q37 S_q96 S_q32 S_q18 S_q9 S_q50 m_0 m_1 m_2 (fadd (fadd (List.getD m_2 0 none) (List.getD m_2 4 none)) (List.getD m_2 8 none)) (fsub (List.getD m_2 7 none) (List.getD m_2 5 none)) (fsub (fsub (fadd (some 4607182418800017408) (List.getD m_2 0 none)) (List.getD m_2 4 none)) (List.getD m_2 8 none)) (fadd (List.getD m_2 1 none) (List.getD m_2 3 none)) (fadd (List.getD m_2 2 none) (List.getD m_2 6 none)) k0))))))) (cond (fge (List.getD m_2 4 none) (List.getD m_2 8 none)) ((inR 2 (List.length m_2)) && ((inR 6 (List.length m_2)) && ((inR 1 (List.length m_2)) && ((inR 3 (List.length m_2)) && ((inR 5 (List.length m_2)) && ((inR 7 (List.length m_2)) && (J_q110 N_ S_q37 S_q96 S_q32 S_q18 S_q9 S_q50 m_0 m_1 m_2 (fadd (fadd (List.getD m_2 0 none) (List.getD m_2 4 none)) (List.getD m_2 8 none)) (fsub (List.getD m_2 2 none) (List.getD m_2 6 none)) (fadd (List.getD m_2 1 none) (List.getD m_2 3 none)) (fsub (fadd (fsub (some 4607182418800017408) (List.getD m_2 0 none)) (List.getD m_2 4 none)) (List.getD m_2 8 none)) (fadd (List.getD m_2 5 none) (List.getD m_2 7 none)) k0))))))) ((inR 3 (List.length m_2)) && ((inR 1 (List.length m_2)) && ((inR 2 (List.length m_2)) && ((inR 6 (List.length m_2)) && ((inR 5 (List.length m_2)) && ((inR 7 (List.length m_2)) && (J_q110 N_ S_q37 S_q96 S_q32 S_q18 S_q9 S_q50 m_0 m_1 m_2 (fadd (fadd (List.getD m_2 0 none) (List.getD m_2 4 none)) (List.getD m_2 8 none)) (fsub (List.getD m_2 3 none) (List.getD m_2 1 none)) (fadd (List.getD m_2 2 none) (List.getD m_2 6 none)) (fadd (List.getD m_2 5 none) (List.getD m_2 7 none)) (fadd (fsub (fsub (some 4607182418800017408) (List.getD m_2 0 none)) (List.getD m_2 4 none)) (List.getD m_2 8 none)) k0))))))))) (cond (fge (List.getD m_2 4 none) (List.getD m_2 8 none)) ((inR 2 (List.length m_2)) && ((inR 6 (List.length m_2)) && ((inR 1 (List.length m_2)) && ((inR 3 (List.length m_2)) && ((inR 5 (List.length m_2)) && ((inR 7 (List.length m_2)) && (J_q110 N_ S_q37 S_q96 S_q32 S_q18 S_q9 S_q50 m_0 m_1 m_2 (fadd (fadd (List.getD m_2 0 none) (List.getD m_2 4 none)) (List.getD m_2 8 none)) (fsub (List.getD m_2 2 none) (List.getD m_2 6 none)) (fadd (List.getD m_2 1 none) (List.getD m_2 3 none)) (fsub (fadd (fsub (some 4607182418800017408) (List.getD m_2 0 none)) (List.getD m_2 4 none)) (List.getD m_2 8 none)) (fadd (List.getD m_2 5 none) (List.getD m_2 7 none)) k0))))))) ((inR 3 (List.length m_2)) && ((inR 1 (List.length m_2)) && ((inR 2 (List.length m_2)) && ((inR 6 (List.length m_2)) && ((inR 5 (List.length m_2)) && ((inR 7 (List.length m_2)) && (J_q110 N_ S_q37 S_q96 S_q32 S_q18 S_q9 S_q50 m_0 m_1 m_2 (fadd (fadd (List.getD m_2 0 none) (List.getD m_2 4 none)) (List.getD m_2 8 none)) (fsub (List.getD m_2 3 none) (List.getD m_2 1 none)) (fadd (List.getD m_2 2 none) (List.getD m_2 6 none)) (fadd (List.getD m_2 5 none) (List.getD m_2 7 none)) (fadd (fsub (fsub (some 4607182418800017408) (List.getD m_2 0 none)) (List.getD m_2 4 none)) (List.getD m_2 8 none)) k0)))))))))))))

def G_q89 (N_ : Nat) (S_q37 : TS_q37) (S_q96 : TS_q96) (S_q32 : TS_q32) (S_q18 : TS_q18) (S_q9 : TS_q9) (S_q50 : TS_q50) (m_0 : Int) (m_1 : Int) (m_2 : List Fl) (k0 : Fl → Fl → Fl → Fl → Int → Bool) : Bool :=
  (S_q37 m_0 m_1 m_2 (fun (nr : Int) => (cond ((m_0 != 3) == false) (S_q96 (m_1 != 3) 3 (fun (nr_1 : Int) => (S_q32 [nr, nr_1] (fun (nr_2 : Int) => (cond (nr_2 != 0) (k0 (some 0) (some 0) (some 0) (some 0) nr_2) (J_q135 N_ S_q37 S_q96 S_q32 S_q18 S_q9 S_q50 m_0 m_1 m_2 k0)))))) (S_q96 true 3 (fun (nr_3 : Int) => (S_q32 [nr, nr_3] (fun (nr_4 : Int) => (cond (nr_4 != 0) (k0 (some 0) (some 0) (some 0) (some 0) nr_4) (J_q135 N_ S_q37 S_q96 S_q32 S_q18 S_q9 S_q50 m_0 m_1 m_2 k0)))))))))

def s_q89 (N_ : Nat) : TS_q89 := G_q89 N_ (s_q37 N_) (s_q96 N_) (s_q32 N_) (s_q18 N_) (s_q9 N_) (s_q50 N_)

abbrev TS_q69 : Type := Fl → Fl → Fl → Fl → Fl → Fl → Fl → Fl → Fl → Fl → Fl → Fl → (Fl → Fl → Fl → Fl → Int → Bool) → Bool

def G_q69 (N_ : Nat) (S_q21 : TS_q21) (S_q102 : TS_q102) (S_q105 : TS_q105) (S_q51 : TS_q51) (S_q72 : TS_q72) (S_q89 : TS_q89) (a_0 : Fl) (a_1 : Fl) (a_2 : Fl) (b_0 : Fl) (b_1 : Fl) (b_2 : Fl) (seenA_0 : Fl) (seenA_1 : Fl) (seenA_2 : Fl) (seenB_0 : Fl) (seenB_1 : Fl) (seenB_2 : Fl) (k0 : Fl → Fl → Fl → Fl → Int → Bool) : Bool :=
  (S_q21 a_0 a_1 a_2 (fun (nr : Int) => (cond (nr != 0) (k0 (some 0) (some 0) (some 0) (some 0) nr) (S_q21 b_0 b_1 b_2 (fun (nr_1 : Int) => (cond (nr_1 != 0) (k0 (some 0) (some 0) (some 0) (some 0) nr_1) (S_q21 seenA_0 seenA_1 seenA_2 (fun (nr_2 : Int) => (cond (nr_2 != 0) (k0 (some 0) (some 0) (some 0) (some 0) nr_2) (S_q21 seenB_0 seenB_1 seenB_2 (fun (nr_3 : Int) => (cond (nr_3 != 0) (k0 (some 0) (some 0) (some 0) (some 0) nr_3) (S_q102 a_0 a_1 a_2 b_0 b_1 b_2 (fun (xr : Fl) (xr_1 : Fl) (xr_2 : Fl) (xr_3 : Fl) (xr_4 : Fl) (xr_5 : Fl) (xr_6 : Fl) (xr_7 : Fl) (xr_8 : Fl) (nr_4 : Int) => (cond (nr_4 != 0) (k0 (some 0) (some 0) (some 0) (some 0) nr_4) (S_q102 seenA_0 seenA_1 seenA_2 seenB_0 seenB_1 seenB_2 (fun (xr_9 : Fl) (xr_10 : Fl) (xr_11 : Fl) (xr_12 : Fl) (xr_13 : Fl) (xr_14 : Fl) (xr_15 : Fl) (xr_16 : Fl) (xr_17 : Fl) (nr_5 : Int) => (cond (nr_5 != 0) (k0 (some 0) (some 0) (some 0) (some 0) nr_5) (S_q105 3 3 (fun (xsr : List Fl) => (S_q51 (fmul xr xr_9) false (fun (cr : Bool) => (S_q51 (fmul xr_3 xr_12) cr (fun (cr_1 : Bool) => (S_q51 (fadd (fmul xr xr_9) (fmul xr_3 xr_12)) cr_1 (fun (cr_2 : Bool) => (S_q51 (fmul xr_6 xr_15) cr_2 (fun (cr_3 : Bool) => (S_q51 (fadd (fadd (fmul xr xr_9) (fmul xr_3 xr_12)) (fmul xr_6 xr_15)) cr_3 (fun (cr_4 : Bool) => (S_q72 3 3 0 0 (fadd (fadd (fmul xr xr_9) (fmul xr_3 xr_12)) (fmul xr_6 xr_15)) xsr (fun (xsr_1 : List Fl) => (S_q51 (fmul xr xr_10) cr_4 (fun (cr_5 : Bool) => (S_q51 (fmul xr_3 xr_13) cr_5 (fun (cr_6 : Bool) => (S_q51 (fadd (fmul xr xr_10) (fmul xr_3 xr_13)) cr_6 (fun (cr_7 : Bool) => (S_q51 (fmul xr_6 xr_16) cr_7 (fun (cr_8 : Bool) => (S_q51 (fadd (fadd (fmul xr xr_10) (fmul xr_3 xr_13)) (fmul xr_6 xr_16)) cr_8 (fun (cr_9 : Bool) => (S_q72 3 3 0 1 (fadd (fadd (fmul xr xr_10) (fmul xr_3 xr_13)) (fmul xr_6 xr_16)) xsr_1 (fun (xsr_2 : List Fl) => (S_q51 (fmul xr xr_11) cr_9 (fun (cr_10 : Bool) => (S_q51 (fmul xr_3 xr_14) cr_10 (fun (cr_11 : Bool) => (S_q51 (fadd (fmul xr xr_11) (fmul xr_3 xr_14)) cr_11 (fun (cr_12 : Bool) => (S_q51 (fmul xr_6 xr_17) cr_12 (fun (cr_13 : Bool) => (S_q51 (fadd (fadd (fmul xr xr_11) (fmul xr_3 xr_14)) (fmul xr_6 xr_17)) cr_13 (fun (cr_14 : Bool) => (S_q72 3 3 0 2 (fadd (fadd (fmul xr xr_11) (fmul xr_3 xr_14)) (fmul xr_6 xr_17)) xsr_2 (fun (xsr_3 : List Fl) => (S_q51 (fmul xr_1 xr_9) cr_14 (fun (cr_15 : Bool) => (S_q51 (fmul xr_4 xr_12) cr_15 (fun (cr_16 : Bool) => (S_q51 (fadd (fmul xr_1 xr_9) (fmul xr_4 xr_12)) cr_16 (fun (cr_17 : Bool) => (S_q51 (fmul xr_7 xr_15) cr_17 (fun (cr_18 : Bool) => (S_q51 (fadd (fadd (fmul xr_1 xr_9) (fmul xr_4 xr_12)) (fmul xr_7 xr_15)) cr_18 (fun (cr_19 : Bool) => (S_q72 3 3 1 0 (fadd (fadd (fmul xr_1 xr_9) (fmul xr_4 xr_12)) (fmul xr_7 xr_15)) xsr_3 (fun (xsr_4 : List Fl) => (S_q51 (fmul xr_1 xr_10) cr_19 (fun (cr_20 : Bool) => (S_q51 (fmul xr_4 xr_13) cr_20 (fun (cr_21 : Bool) => (S_q51 (fadd (fmul xr_1 xr_10) (fmul xr_4 xr_13)) cr_21 (fun (cr_22 : Bool) => (S_q51 (fmul xr_7 xr_16) cr_22 (fun (cr_23 : Bool) => (S_q51 (fadd (fadd (fmul xr_1 xr_10) (fmul xr_4 xr_13)) (fmul xr_7 xr_16)) cr_23 (fun (cr_24 : Bool) => (S_q72 3 3 1 1 (fadd (fadd (fmul xr_1 xr_10) (fmul xr_4 xr_13)) (fmul xr_7 xr_16)) xsr_4 (fun (xsr_5 : List Fl) => (S_q51 (fmul xr_1 xr_11) cr_24 (fun (cr_25 : Bool) => (S_q51 (fmul xr_4 xr_14) cr_25 (fun (cr_26 : Bool) => (S_q51 (fadd (fmul xr_1 xr_11) (fmul xr_4 xr_14)) cr_26 (fun (cr_27 : Bool) => (S_q51 (fmul xr_7 xr_17) cr_27 (fun (cr_28 : Bool) => (S_q51 (fadd (fadd (fmul xr_1 xr_11) (fmul xr_4 xr_14)) (fmul xr_7 xr_17)) cr_28 (fun (cr_29 : Bool) => (S_q72 3 3 1 2 (fadd (fadd (fmul xr_1 xr_11) (fmul xr_4 xr_14)) (fmul xr_7 xr_17)) xsr_5 (fun (xsr_6 : List Fl) => (S_q51 (fmul xr_2 xr_9) cr_29 (fun (cr_30 : Bool) => (S_q51 (fmul xr_5 xr_12) cr_30 (fun (cr_31 : Bool) => (S_q51 (fadd (fmul xr_2 xr_9) (fmul xr_5 xr_12)) cr_31 (fun (cr_32 : Bool) => (S_q51 (fmul xr_8 xr_15) cr_32 (fun (cr_33 : Bool) => (S_q51 (fadd (fadd (fmul xr_2 xr_9) (fmul xr_5 xr_12)) (fmul xr_8 xr_15)) cr_33 (fun (cr_34 : Bool) => (S_q72 3 3 2 0 (fadd (fadd (fmul xr_2 xr_9) (fmul xr_5 xr_12)) (fmul xr_8 xr_15)) xsr_6 (fun (xsr_7 : List Fl) => (S_q51 (fmul xr_2 xr_10) cr_34 (fun (cr_35 : Bool) => (S_q51 (fmul xr_5 xr_13) cr_35 (fun (cr_36 : Bool) => (S_q51 (fadd (fmul xr_2 xr_10) (fmul xr_5 xr_13)) cr_36 (fun (cr_37 : Bool) => (S_q51 (fmul xr_8 xr_16) cr_37 (fun (cr_38 : Bool) => (S_q51 (fadd (fadd (fmul xr_2 xr_10) (fmul xr_5 xr_13)) (fmul xr_8 xr_16)) cr_38 (fun (cr_39 : Bool) => (S_q72 3 3 2 1 (fadd (fadd (fmul xr_2 xr_10) (fmul xr_5 xr_13)) (fmul xr_8 xr_16)) xsr_7 (fun (xsr_8 : List Fl) => (S_q51 (fmul xr_2 xr_11) cr_39 (fun (cr_40 : Bool) => (S_q51 (fmul xr_5 xr_14) cr_40 (fun (cr_41 : Bool) => (S_q51 (fadd (fmul xr_2 xr_11) (fmul xr_5 xr_14)) cr_41 (fun (cr_42 : Bool) => (S_q51 (fmul xr_8 xr_17) cr_42 (fun (cr_43 : Bool) => (S_q51 (fadd (fadd (fmul xr_2 xr_11) (fmul xr_5 xr_14)) (fmul xr_8 xr_17)) cr_43 (fun (cr_44 : Bool) => (S_q72 3 3 2 2 (fadd (fadd (fmul xr_2 xr_11) (fmul xr_5 xr_14)) (fmul xr_8 xr_17)) xsr_8 (fun (xsr_9 : List Fl) => (cond cr_44 (k0 (some 0) (some 0) (some 0) (some 0) 5) (S_q89 3 3 xsr_9 (fun (xr_18 : Fl) (xr_19 : Fl) (xr_20 : Fl) (xr_21 : Fl) (nr_6 : Int) => (k0 xr_18 xr_19 xr_20 xr_21 nr_6))))))))))))))))))))))))))))))))))))))))))))))))))))))))))))))))))))))))))))))))))))))))))))))))))))))))))))))))))))))))))))))))))))

def s_q69 (N_ : Nat) : TS_q69 := G_q69 (N_ + 24) (s_q21 N_) (s_q102 N_) (s_q105 N_) (s_q51 N_) (s_q72 N_) (s_q89 N_)

abbrev TS_q97 : Type := List Fl → List Fl → (Bool → Bool) → Bool

def st_zl_bits_0 (N_ : Nat) (S_q48 : TS_q48) (a_1 : List Fl) (b_1 : List Fl) (t12 : Int) (e0 : Bool → Bool) (e1 : Bool) : (Int) → ((Int) → Bool) → Bool := fun v_ K => match v_ with
  | t13 => (cond (decide (t13 < t12)) ((inR t13 (List.length a_1)) && (S_q48 (List.getD a_1 (Int.toNat t13) none) (fun (nr : Int) => ((inR t13 (List.length b_1)) && (S_q48 (List.getD b_1 (Int.toNat t13) none) (fun (nr_1 : Int) => (cond (nr != nr_1) (e0 false) ((fits .i64 (t13 + 1)) && (K (t13 + 1)))))))))) e1)

def G_q97 (N_ : Nat) (S_q48 : TS_q48) (a : List Fl) (b : List Fl) (k0 : Bool → Bool) : Bool :=
  (cond ((((List.length a) : Nat) : Int) != (((List.length b) : Nat) : Int)) (k0 false) (iterG N_ (st_zl_bits_0 N_ S_q48 a b (((List.length a) : Nat) : Int) (fun (t4 : Bool) => (k0 t4)) (k0 true)) 0))

def s_q97 (N_ : Nat) : TS_q97 := G_q97 N_ (s_q48 N_)

abbrev TS_q74 : Type := Fl → Fl → Fl → Fl → Fl → Fl → Fl → Fl → (Bool → Bool) → Bool

def G_q74 (N_ : Nat) (S_q62 : TS_q62) (S_q97 : TS_q97) (a_0 : Fl) (a_1 : Fl) (a_2 : Fl) (a_3 : Fl) (b_0 : Fl) (b_1 : Fl) (b_2 : Fl) (b_3 : Fl) (k0 : Bool → Bool) : Bool :=
  (S_q62 a_0 a_1 a_2 a_3 (fun (xsr : List Fl) => (S_q62 b_0 b_1 b_2 b_3 (fun (xsr_1 : List Fl) => (S_q97 xsr xsr_1 (fun (cr : Bool) => (k0 cr)))))))

def s_q74 (N_ : Nat) : TS_q74 := G_q74 N_ (s_q62 N_) (s_q97 N_)

abbrev TS_matrix_list : Type := List Fl → (Int → Bool) → Bool

def G_matrix_list (N_ : Nat) (S_q14 : TS_q14) (x : List Fl) (k0 : Int → Bool) : Bool :=
  (cond (decide ((((List.length x) : Nat) : Int) > 12)) (k0 1) (S_q14 x (fun (cr : Bool) => (cond (!cr) (k0 4) (k0 0)))))

def s_matrix_list (N_ : Nat) : TS_matrix_list := G_matrix_list N_ (s_q14 N_)

abbrev TS_matrix_Diag_1_p0r : Type := Int → Int → List Fl → (Fl → Bool) → Bool

def G_matrix_Diag_1_p0r (N_ : Nat) (i : Int) (j : Int) (b : List Fl) (k0 : Fl → Bool) : Bool :=
  (cond (i == j) ((inR i (List.length b)) && (k0 (List.getD b (Int.toNat i) none))) (k0 (some 0)))

def s_matrix_Diag_1_p0r (N_ : Nat) : TS_matrix_Diag_1_p0r := G_matrix_Diag_1_p0r N_

abbrev TS_matrix_fill_fr : Type := Int → Int → List Fl → (List Fl → Bool) → Bool

def st_matrix_fill_fr_2 (N_ : Nat) (S_matrix_Diag_1_p0r : TS_matrix_Diag_1_p0r) (cols_2 : Int) (i : Int) (t17_1 : Int) (t18_1 : Int) (t21 : Int) (at__1 : List Fl) (t6_2 : Int) (t6_3 : Int) (m_2 : Int) (m_3 : Int) (e0 : List Fl → Bool) : (Int × List Fl) → ((Int × List Fl) → Bool) → Bool := fun v_ K => match v_ with
  | (t22, b3_1) => (cond (decide (t22 < t21)) (S_matrix_Diag_1_p0r i t22 at__1 (fun (xr : Fl) => ((decide ((List.length (b3_1 ++ [xr])) * 8 ≤ 140737488355328)) && ((fits .i64 (t22 + 1)) && (K ((t22 + 1), (b3_1 ++ [xr]))))))) (e0 b3_1))

def st_matrix_fill_fr_0 (N_ : Nat) (S_matrix_Diag_1_p0r : TS_matrix_Diag_1_p0r) (cols_1 : Int) (t17 : Int) (at_ : List Fl) (t6 : Int) (t6_1 : Int) (m : Int) (m_1 : Int) (e0 : List Fl → Bool) : (Int × List Fl) → ((Int × List Fl) → Bool) → Bool := fun v_ K => match v_ with
  | (t18, b3) => (cond (decide (t18 < t17)) (iterG N_ (st_matrix_fill_fr_2 N_ S_matrix_Diag_1_p0r cols_1 t18 t17 t18 cols_1 at_ t6 t6_1 m m_1 (fun (b3_2 : List Fl) => ((fits .i64 (t18 + 1)) && (K ((t18 + 1), b3_2))))) (0, b3)) (e0 b3))

def G_matrix_fill_fr (N_ : Nat) (S_matrix_Diag_1_p0r : TS_matrix_Diag_1_p0r) (rows : Int) (cols : Int) (b : List Fl) (k0 : List Fl → Bool) : Bool :=
  ((fits .i64 (rows * cols)) && ((mkOk 8 0 (rows * cols)) && (iterG N_ (st_matrix_fill_fr_0 N_ S_matrix_Diag_1_p0r cols rows b 0 0 rows cols (fun (b3_3 : List Fl) => (k0 b3_3))) (0, []))))

def s_matrix_fill_fr (N_ : Nat) : TS_matrix_fill_fr := G_matrix_fill_fr N_ (s_matrix_Diag_1_p0r N_)

abbrev TS_matrix_Diag : Type := List Fl → (Int → Int → Int → Bool) → (Int → Int → Int → List Fl → Bool) → Bool

def G_matrix_Diag (N_ : Nat) (S_matrix_list : TS_matrix_list) (S_matrix_fill_fr : TS_matrix_fill_fr) (d : List Fl) (k0 : Int → Int → Int → Bool) (k1 : Int → Int → Int → List Fl → Bool) : Bool :=
  (S_matrix_list d (fun (nr : Int) => (cond (nr != 0) (k0 0 0 nr) (S_matrix_fill_fr (((List.length d) : Nat) : Int) (((List.length d) : Nat) : Int) d (fun (xsr : List Fl) => (k1 (((List.length d) : Nat) : Int) (((List.length d) : Nat) : Int) 0 xsr))))))

def s_matrix_Diag (N_ : Nat) : TS_matrix_Diag := G_matrix_Diag N_ (s_matrix_list N_) (s_matrix_fill_fr N_)

abbrev TS_q98 : Type := Fl → Fl → (Int → Int → Int → Bool) → (Int → Int → Int → List Fl → Bool) → Bool

def G_q98 (N_ : Nat) (S_matrix_Diag : TS_matrix_Diag) (a : Fl) (b : Fl) (k0 : Int → Int → Int → Bool) (k1 : Int → Int → Int → List Fl → Bool) : Bool :=
  (S_matrix_Diag [a, a, a, b, b, b] (fun (nr : Int) (nr_1 : Int) (nr_2 : Int) => (k0 nr nr_1 nr_2)) (fun (nr_3 : Int) (nr_4 : Int) (nr_5 : Int) (xsr : List Fl) => (k1 nr_3 nr_4 nr_5 xsr)))

def s_q98 (N_ : Nat) : TS_q98 := G_q98 N_ (s_matrix_Diag N_)

abbrev TS_q109 : Type := Fl → Fl → Fl → Fl → Fl → Fl → (Fl → Fl → Fl → Fl → Fl → Fl → Fl → Int → Int → Int → Bool) → (Fl → Fl → Fl → Fl → Fl → Fl → Fl → Int → Int → Int → List Fl → Bool) → Bool

def G_q109 (N_ : Nat) (S_quat_Unit : TS_quat_Unit) (S_q14 : TS_q14) (S_q98 : TS_q98) (q_0 : Fl) (q_1 : Fl) (q_2 : Fl) (q_3 : Fl) (turn : Fl) (bias : Fl) (k0 : Fl → Fl → Fl → Fl → Fl → Fl → Fl → Int → Int → Int → Bool) (k1 : Fl → Fl → Fl → Fl → Fl → Fl → Fl → Int → Int → Int → List Fl → Bool) : Bool :=
  (S_quat_Unit q_0 q_1 q_2 q_3 (fun (xr : Fl) (xr_1 : Fl) (xr_2 : Fl) (xr_3 : Fl) (nr : Int) => (cond (nr != 0) (k0 (some 0) (some 0) (some 0) (some 0) (some 0) (some 0) (some 0) 0 0 nr) (S_q14 [turn] (fun (cr : Bool) => (cond (!cr) (k0 (some 0) (some 0) (some 0) (some 0) (some 0) (some 0) (some 0) 0 0 4) (cond (fle turn (some 0)) (k0 (some 0) (some 0) (some 0) (some 0) (some 0) (some 0) (some 0) 0 0 252) (S_q14 [bias] (fun (cr_1 : Bool) => (cond (!cr_1) (k0 (some 0) (some 0) (some 0) (some 0) (some 0) (some 0) (some 0) 0 0 4) (cond (fle bias (some 0)) (k0 (some 0) (some 0) (some 0) (some 0) (some 0) (some 0) (some 0) 0 0 252) (S_q98 turn bias (fun (nr_1 : Int) (nr_2 : Int) (nr_3 : Int) => (k0 xr xr_1 xr_2 xr_3 (some 0) (some 0) (some 0) nr_1 nr_2 nr_3)) (fun (nr_4 : Int) (nr_5 : Int) (nr_6 : Int) (xsr : List Fl) => (k1 xr xr_1 xr_2 xr_3 (some 0) (some 0) (some 0) nr_4 nr_5 nr_6 xsr))))))))))))))

def s_q109 (N_ : Nat) : TS_q109 := G_q109 (N_ + 24) (s_quat_Unit N_) (s_q14 N_) (s_q98 N_)

abbrev TS_q116 : Type := Fl → Fl → Fl → (Int → Int → Int → Bool) → (Int → Int → Int → List Fl → Bool) → Bool

def G_q116 (N_ : Nat) (S_q14 : TS_q14) (v_0 : Fl) (v_1 : Fl) (v_2 : Fl) (k0 : Int → Int → Int → Bool) (k1 : Int → Int → Int → List Fl → Bool) : Bool :=
  (S_q14 [v_0, v_1, v_2] (fun (cr : Bool) => (cond (!cr) (k0 0 0 4) (k1 3 3 0 [(some 0), (fsub (some 0) v_2), v_1, v_2, (some 0), (fsub (some 0) v_0), (fsub (some 0) v_1), v_0, (some 0)]))))

def s_q116 (N_ : Nat) : TS_q116 := G_q116 N_ (s_q14 N_)

abbrev TS_q101 : Type := (Bool → Bool) → Bool

def G_q101 (N_ : Nat) (S_q109 : TS_q109) (S_q116 : TS_q116) (S_q74 : TS_q74) (S_q97 : TS_q97) (k0 : Bool → Bool) : Bool :=
  (S_q109 (some 0) (some 0) (some 4613937818241073152) (some 4616189618054758400) (some 4602678819172646912) (some 4598175219545276416) (fun (xr : Fl) (xr_1 : Fl) (xr_2 : Fl) (xr_3 : Fl) (xr_4 : Fl) (xr_5 : Fl) (xr_6 : Fl) (nr : Int) (nr_1 : Int) (nr_2 : Int) => (S_q116 (some 4607182418800017408) (some 4611686018427387904) (some 4613937818241073152) (fun (nr_6 : Int) (nr_7 : Int) (nr_8 : Int) => (cond ((nr_2 == 0) == true) (cond ((nr_8 == 0) == true) (S_q74 xr xr_1 xr_2 xr_3 (some 0) (some 0) (some 4603579539098121011) (some 4605380978949069210) (fun (cr : Bool) => (cond (cr == true) (k0 false) (k0 false)))) (k0 false)) (k0 false))) (fun (nr_9 : Int) (nr_10 : Int) (nr_11 : Int) (xsr_1 : List Fl) => (cond ((nr_2 == 0) == true) (cond ((nr_11 == 0) == true) (S_q74 xr xr_1 xr_2 xr_3 (some 0) (some 0) (some 4603579539098121011) (some 4605380978949069210) (fun (cr_1 : Bool) => (cond (cr_1 == true) (k0 false) (k0 false)))) (k0 false)) (k0 false))))) (fun (xr_7 : Fl) (xr_8 : Fl) (xr_9 : Fl) (xr_10 : Fl) (xr_11 : Fl) (xr_12 : Fl) (xr_13 : Fl) (nr_3 : Int) (nr_4 : Int) (nr_5 : Int) (xsr : List Fl) => (S_q116 (some 4607182418800017408) (some 4611686018427387904) (some 4613937818241073152) (fun (nr_12 : Int) (nr_13 : Int) (nr_14 : Int) => (cond ((nr_5 == 0) == true) (cond ((nr_14 == 0) == true) (S_q74 xr_7 xr_8 xr_9 xr_10 (some 0) (some 0) (some 4603579539098121011) (some 4605380978949069210) (fun (cr_2 : Bool) => (cond (cr_2 == true) (cond (((((List.length xsr) : Nat) : Int) == 36) == true) ((inR 0 (List.length xsr)) && ((decide (0 < (List.length xsr))) && (cond ((feq (List.getD xsr 0 none) (some 4602678819172646912)) == true) ((inR 35 (List.length xsr)) && ((decide (35 < (List.length xsr))) && (cond ((feq (List.getD xsr 35 none) (some 4598175219545276416)) == true) (S_q97 [] [(some 0), (some 13837309855095848960), (some 4611686018427387904), (some 4613937818241073152), (some 0), (some 13830554455654793216), (some 13835058055282163712), (some 4607182418800017408), (some 0)] (fun (cr_3 : Bool) => (k0 cr_3))) (k0 false)))) (k0 false)))) (k0 false)) (k0 false)))) (k0 false)) (k0 false))) (fun (nr_15 : Int) (nr_16 : Int) (nr_17 : Int) (xsr_2 : List Fl) => (cond ((nr_5 == 0) == true) (cond ((nr_17 == 0) == true) (S_q74 xr_7 xr_8 xr_9 xr_10 (some 0) (some 0) (some 4603579539098121011) (some 4605380978949069210) (fun (cr_4 : Bool) => (cond (cr_4 == true) (cond (((((List.length xsr) : Nat) : Int) == 36) == true) ((inR 0 (List.length xsr)) && ((decide (0 < (List.length xsr))) && (cond ((feq (List.getD xsr 0 none) (some 4602678819172646912)) == true) ((inR 35 (List.length xsr)) && ((decide (35 < (List.length xsr))) && (cond ((feq (List.getD xsr 35 none) (some 4598175219545276416)) == true) (S_q97 xsr_2 [(some 0), (some 13837309855095848960), (some 4611686018427387904), (some 4613937818241073152), (some 0), (some 13830554455654793216), (some 13835058055282163712), (some 4607182418800017408), (some 0)] (fun (cr_5 : Bool) => (k0 cr_5))) (k0 false)))) (k0 false)))) (k0 false)) (k0 false)))) (k0 false)) (k0 false))))))

def s_q101 (N_ : Nat) : TS_q101 := G_q101 N_ (s_q109 N_) (s_q116 N_) (s_q74 N_) (s_q97 N_)

abbrev TS_q38 : Type := Int → Int → Int → Int → Int → Int → Int → Int → Int → Int → Int → Int → (Bool → Bool) → Bool

def G_q38 (N_ : Nat) (S_q117 : TS_q117) (S_q80 : TS_q80) (S_q69 : TS_q69) (S_q74 : TS_q74) (S_q101 : TS_q101) (a_0 : Int) (a_1 : Int) (a_2 : Int) (b_0 : Int) (b_1 : Int) (b_2 : Int) (c_0 : Int) (c_1 : Int) (c_2 : Int) (d_0 : Int) (d_1 : Int) (d_2 : Int) (k0 : Bool → Bool) : Bool :=
  (S_q117 a_0 a_1 a_2 (fun (xr : Fl) (xr_1 : Fl) (xr_2 : Fl) => (S_q117 b_0 b_1 b_2 (fun (xr_3 : Fl) (xr_4 : Fl) (xr_5 : Fl) => (S_q117 c_0 c_1 c_2 (fun (xr_6 : Fl) (xr_7 : Fl) (xr_8 : Fl) => (S_q117 d_0 d_1 d_2 (fun (xr_9 : Fl) (xr_10 : Fl) (xr_11 : Fl) => (S_q80 xr xr_1 xr_2 xr_3 xr_4 xr_5 xr_6 xr_7 xr_8 xr_9 xr_10 xr_11 (fun (xr_12 : Fl) (xr_13 : Fl) (xr_14 : Fl) (xr_15 : Fl) (nr : Int) => (S_q117 a_0 a_1 a_2 (fun (xr_16 : Fl) (xr_17 : Fl) (xr_18 : Fl) => (S_q117 b_0 b_1 b_2 (fun (xr_19 : Fl) (xr_20 : Fl) (xr_21 : Fl) => (S_q117 c_0 c_1 c_2 (fun (xr_22 : Fl) (xr_23 : Fl) (xr_24 : Fl) => (S_q117 d_0 d_1 d_2 (fun (xr_25 : Fl) (xr_26 : Fl) (xr_27 : Fl) => (S_q69 xr_16 xr_17 xr_18 xr_19 xr_20 xr_21 xr_22 xr_23 xr_24 xr_25 xr_26 xr_27 (fun (xr_28 : Fl) (xr_29 : Fl) (xr_30 : Fl) (xr_31 : Fl) (nr_1 : Int) => (S_q74 xr_12 xr_13 xr_14 xr_15 xr_28 xr_29 xr_30 xr_31 (fun (cr : Bool) => (cond (cr == true) (cond ((nr == nr_1) == true) (S_q101 (fun (cr_1 : Bool) => (k0 cr_1))) (k0 false)) (k0 false))))))))))))))))))))))))

def s_q38 (N_ : Nat) : TS_q38 := G_q38 N_ (s_q117 N_) (s_q80 N_) (s_q69 N_) (s_q74 N_) (s_q101 N_)

end Go.Proofs.YtldpkhfffeddiaaGreat
