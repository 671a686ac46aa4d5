/-
  THE PROGRAM's FUNCTIONS, as their meanings (written by program).
  Conditions: none.
-/
import Derived.Test.YtoagmokejfcpbaaMachX
namespace Go.Proofs.Ytoagmokejfcpbaa
open Go Go.Mach
set_option linter.unusedVariables false

abbrev TS_math_Float64bits : Type := Nat → (Int → Bool) → Bool

def s_math_Float64bits (N_ : Nat) : TS_math_Float64bits := fun n k => k n

abbrev TS_anatomy_of : Type := (Int → Int → Int → Bool) → Bool

def G_anatomy_of (N_ : Nat) (k0 : Int → Int → Int → Bool) : Bool :=
  (k0 52 2047 1075)

def s_anatomy_of (N_ : Nat) : TS_anatomy_of := G_anatomy_of N_

abbrev TS_v_anatomy_format_sign : Type := Int → Int → Int → (Int → Bool) → Bool

def G_v_anatomy_format_sign (N_ : Nat) (f_0 : Int) (f_1 : Int) (f_2 : Int) (k0 : Int → Bool) : Bool :=
  ((fits .i64 (f_1 + 1)) && ((decide (0 ≤ f_0)) && (k0 (IntKind.wrap .u64 ((IntKind.wrap .u64 (f_1 + 1)) * 2 ^ (min (Int.toNat f_0) 64))))))

def s_v_anatomy_format_sign (N_ : Nat) : TS_v_anatomy_format_sign := G_v_anatomy_format_sign N_

abbrev TS_v_anatomy_format_infinite : Type := Int → Int → Int → (Int → Bool) → Bool

def G_v_anatomy_format_infinite (N_ : Nat) (f_0 : Int) (f_1 : Int) (f_2 : Int) (k0 : Int → Bool) : Bool :=
  ((decide (0 ≤ f_0)) && (k0 (IntKind.wrap .u64 ((IntKind.wrap .u64 f_1) * 2 ^ (min (Int.toNat f_0) 64)))))

def s_v_anatomy_format_infinite (N_ : Nat) : TS_v_anatomy_format_infinite := G_v_anatomy_format_infinite N_

abbrev TS_anatomy_nan_uint64_ : Type := Int → Int → Int → Int → (Bool → Bool) → Bool

def G_anatomy_nan_uint64_ (N_ : Nat) (S_v_anatomy_format_sign : TS_v_anatomy_format_sign) (S_v_anatomy_format_infinite : TS_v_anatomy_format_infinite) (b : Int) (f_0 : Int) (f_1 : Int) (f_2 : Int) (k0 : Bool → Bool) : Bool :=
  (S_v_anatomy_format_sign f_0 f_1 f_2 (fun (nr : Int) => (S_v_anatomy_format_infinite f_0 f_1 f_2 (fun (nr_1 : Int) => (k0 (decide ((bitsN .andNot .u64 b nr) > nr_1)))))))

def s_anatomy_nan_uint64_ (N_ : Nat) : TS_anatomy_nan_uint64_ := G_anatomy_nan_uint64_ N_ (s_v_anatomy_format_sign N_) (s_v_anatomy_format_infinite N_)

abbrev TS_v_anatomy_format_hidden : Type := Int → Int → Int → (Int → Bool) → Bool

def G_v_anatomy_format_hidden (N_ : Nat) (f_0 : Int) (f_1 : Int) (f_2 : Int) (k0 : Int → Bool) : Bool :=
  ((decide (0 ≤ f_0)) && (k0 (IntKind.wrap .u64 (1 * 2 ^ (min (Int.toNat f_0) 64)))))

def s_v_anatomy_format_hidden (N_ : Nat) : TS_v_anatomy_format_hidden := G_v_anatomy_format_hidden N_

abbrev TS_v_anatomy_format_none : Type := Int → Int → Int → (Int → Bool) → Bool

def G_v_anatomy_format_none (N_ : Nat) (S_v_anatomy_format_infinite : TS_v_anatomy_format_infinite) (S_v_anatomy_format_hidden : TS_v_anatomy_format_hidden) (f_0 : Int) (f_1 : Int) (f_2 : Int) (k0 : Int → Bool) : Bool :=
  (S_v_anatomy_format_infinite f_0 f_1 f_2 (fun (nr : Int) => (S_v_anatomy_format_hidden f_0 f_1 f_2 (fun (nr_1 : Int) => (k0 (bitsN .or .u64 (bitsN .or .u64 nr (Int.fdiv nr_1 (2 ^ 1))) (IntKind.wrap .u64 (Int.tdiv f_0 52))))))))

def s_v_anatomy_format_none (N_ : Nat) : TS_v_anatomy_format_none := G_v_anatomy_format_none N_ (s_v_anatomy_format_infinite N_) (s_v_anatomy_format_hidden N_)

abbrev TS_anatomy_canon_uint64_ : Type := Int → Int → Int → Int → (Int → Bool) → Bool

def G_anatomy_canon_uint64_ (N_ : Nat) (S_anatomy_nan_uint64_ : TS_anatomy_nan_uint64_) (S_v_anatomy_format_none : TS_v_anatomy_format_none) (b : Int) (f_0 : Int) (f_1 : Int) (f_2 : Int) (k0 : Int → Bool) : Bool :=
  (S_anatomy_nan_uint64_ b f_0 f_1 f_2 (fun (cr : Bool) => (cond cr (S_v_anatomy_format_none f_0 f_1 f_2 (fun (nr : Int) => (k0 nr))) (k0 b))))

def s_anatomy_canon_uint64_ (N_ : Nat) : TS_anatomy_canon_uint64_ := G_anatomy_canon_uint64_ N_ (s_anatomy_nan_uint64_ N_) (s_v_anatomy_format_none N_)

abbrev TS_anatomy_split_uint64_ : Type := Int → Int → Int → Int → (Bool → Int → Int → Bool) → Bool

def G_anatomy_split_uint64_ (N_ : Nat) (S_anatomy_canon_uint64_ : TS_anatomy_canon_uint64_) (S_v_anatomy_format_sign : TS_v_anatomy_format_sign) (S_v_anatomy_format_hidden : TS_v_anatomy_format_hidden) (b : Int) (f_0 : Int) (f_1 : Int) (f_2 : Int) (k0 : Bool → Int → Int → Bool) : Bool :=
  (S_anatomy_canon_uint64_ b f_0 f_1 f_2 (fun (nr : Int) => (S_v_anatomy_format_sign f_0 f_1 f_2 (fun (nr_1 : Int) => ((decide (0 ≤ f_0)) && ((fits .i64 (bitsN .and .u64 (Int.fdiv nr (2 ^ (min (Int.toNat f_0) 64))) (IntKind.wrap .u64 f_1))) && (S_v_anatomy_format_hidden f_0 f_1 f_2 (fun (nr_2 : Int) => (k0 ((bitsN .and .u64 nr nr_1) != 0) (bitsN .and .u64 (Int.fdiv nr (2 ^ (min (Int.toNat f_0) 64))) (IntKind.wrap .u64 f_1)) (bitsN .and .u64 nr (IntKind.wrap .u64 (nr_2 - 1))))))))))))

def s_anatomy_split_uint64_ (N_ : Nat) : TS_anatomy_split_uint64_ := G_anatomy_split_uint64_ N_ (s_anatomy_canon_uint64_ N_) (s_v_anatomy_format_sign N_) (s_v_anatomy_format_hidden N_)

abbrev TS_anatomy_class_uint64_ : Type := Int → Int → Int → Int → (Int → Bool) → Bool

def G_anatomy_class_uint64_ (N_ : Nat) (S_anatomy_split_uint64_ : TS_anatomy_split_uint64_) (b : Int) (f_0 : Int) (f_1 : Int) (f_2 : Int) (k0 : Int → Bool) : Bool :=
  (S_anatomy_split_uint64_ b f_0 f_1 f_2 (fun (cr : Bool) (nr : Int) (nr_1 : Int) => (cond ((nr == f_1) == true) (cond (nr_1 != 0) (k0 1) (cond (nr == f_1) (k0 2) (cond ((nr == 0) == true) (cond (nr_1 == 0) (k0 3) (cond (nr == 0) (k0 4) (k0 5))) (cond (nr == 0) (k0 4) (k0 5))))) (cond (nr == f_1) (k0 2) (cond ((nr == 0) == true) (cond (nr_1 == 0) (k0 3) (cond (nr == 0) (k0 4) (k0 5))) (cond (nr == 0) (k0 4) (k0 5)))))))

def s_anatomy_class_uint64_ (N_ : Nat) : TS_anatomy_class_uint64_ := G_anatomy_class_uint64_ N_ (s_anatomy_split_uint64_ N_)

abbrev TS_anatomy_Class : Type := Nat → (Int → Bool) → Bool

def G_anatomy_Class (N_ : Nat) (S_math_Float64bits : TS_math_Float64bits) (S_anatomy_of : TS_anatomy_of) (S_anatomy_class_uint64_ : TS_anatomy_class_uint64_) (x : Nat) (k0 : Int → Bool) : Bool :=
  (S_math_Float64bits x (fun (nr : Int) => (S_anatomy_of (fun (nr_1 : Int) (nr_2 : Int) (nr_3 : Int) => (S_anatomy_class_uint64_ nr nr_1 nr_2 nr_3 (fun (nr_4 : Int) => (k0 nr_4)))))))

def s_anatomy_Class (N_ : Nat) : TS_anatomy_Class := G_anatomy_Class N_ (s_math_Float64bits N_) (s_anatomy_of N_) (s_anatomy_class_uint64_ N_)

abbrev TS_anatomy_Same : Type := Nat → Nat → (Bool → Bool) → Bool

def G_anatomy_Same (N_ : Nat) (S_math_Float64bits : TS_math_Float64bits) (S_anatomy_of : TS_anatomy_of) (S_anatomy_canon_uint64_ : TS_anatomy_canon_uint64_) (a : Nat) (b : Nat) (k0 : Bool → Bool) : Bool :=
  (S_math_Float64bits a (fun (nr : Int) => (S_anatomy_of (fun (nr_1 : Int) (nr_2 : Int) (nr_3 : Int) => (S_anatomy_canon_uint64_ nr nr_1 nr_2 nr_3 (fun (nr_4 : Int) => (S_math_Float64bits b (fun (nr_5 : Int) => (S_anatomy_of (fun (nr_6 : Int) (nr_7 : Int) (nr_8 : Int) => (S_anatomy_canon_uint64_ nr_5 nr_6 nr_7 nr_8 (fun (nr_9 : Int) => (k0 (nr_4 == nr_9))))))))))))))

def s_anatomy_Same (N_ : Nat) : TS_anatomy_Same := G_anatomy_Same N_ (s_math_Float64bits N_) (s_anatomy_of N_) (s_anatomy_canon_uint64_ N_)

abbrev TS_math_Float64frombits : Type := Int → (Fl → Bool) → Bool

def s_math_Float64frombits (N_ : Nat) : TS_math_Float64frombits := fun n k => k (canon n.toNat)

abbrev TS_math_Abs : Type := Nat → (Fl → Bool) → Bool

def G_math_Abs (N_ : Nat) (S_math_Float64bits : TS_math_Float64bits) (S_math_Float64frombits : TS_math_Float64frombits) (x : Nat) (k0 : Fl → Bool) : Bool :=
  (S_math_Float64bits x (fun (nr : Int) => (S_math_Float64frombits (bitsN .andNot .u64 nr 9223372036854775808) (fun (xr : Fl) => (k0 xr)))))

def s_math_Abs (N_ : Nat) : TS_math_Abs := G_math_Abs N_ (s_math_Float64bits N_) (s_math_Float64frombits N_)

abbrev TS_binnacleref01_Of64 : Type := List Int → (List Fl → Bool) → Bool

def st_binnacleref01_Of64_0 (N_ : Nat) (S_math_Float64frombits : TS_math_Float64frombits) (t6_1 : List Int) (t7_1 : Int) (e0 : List Fl → Bool) : (Int × List Fl) → ((Int × List Fl) → Bool) → Bool := fun v_ K => match v_ with
  | (t8_1, x) => (cond (decide (t8_1 < t7_1)) ((inR t8_1 (List.length t6_1)) && (S_math_Float64frombits (List.getD t6_1 (Int.toNat t8_1) 0) (fun (xr_1 : Fl) => ((decide ((List.length (x ++ [xr_1])) * 8 ≤ 140737488355328)) && ((fits .i64 (t8_1 + 1)) && (K ((t8_1 + 1), (x ++ [xr_1])))))))) (e0 x))

def G_binnacleref01_Of64 (N_ : Nat) (S_math_Float64frombits : TS_math_Float64frombits) (l : List Int) (k0 : List Fl → Bool) : Bool :=
  (iterG N_ (st_binnacleref01_Of64_0 N_ S_math_Float64frombits l (((List.length l) : Nat) : Int) (fun (x_1 : List Fl) => (k0 x_1))) (0, []))

def s_binnacleref01_Of64 (N_ : Nat) : TS_binnacleref01_Of64 := G_binnacleref01_Of64 N_ (s_math_Float64frombits N_)

abbrev TS_binnaclelaw16_l : Type := List Int → (List Fl → Bool) → Bool

def G_binnaclelaw16_l (N_ : Nat) (S_binnacleref01_Of64 : TS_binnacleref01_Of64) (b : List Int) (k0 : List Fl → Bool) : Bool :=
  (S_binnacleref01_Of64 b (fun (xsr : List Fl) => (k0 xsr)))

def s_binnaclelaw16_l (N_ : Nat) : TS_binnaclelaw16_l := G_binnaclelaw16_l N_ (s_binnacleref01_Of64 N_)

abbrev TS_binnaclelaw16_mat : Type := Int → Int → List Int → (List Fl → Bool) → Bool

def G_binnaclelaw16_mat (N_ : Nat) (S_binnaclelaw16_l : TS_binnaclelaw16_l) (m_0 : Int) (m_1 : Int) (m_2 : List Int) (k0 : List Fl → Bool) : Bool :=
  (S_binnaclelaw16_l m_2 (fun (xsr : List Fl) => (k0 xsr)))

def s_binnaclelaw16_mat (N_ : Nat) : TS_binnaclelaw16_mat := G_binnaclelaw16_mat N_ (s_binnaclelaw16_l N_)

abbrev TS_binnaclelaw16_of : Type := List Int → Int → Int → List Int → (List Fl → List Fl → Bool) → Bool

def G_binnaclelaw16_of (N_ : Nat) (S_binnaclelaw16_l : TS_binnaclelaw16_l) (S_binnaclelaw16_mat : TS_binnaclelaw16_mat) (x : List Int) (m_0 : Int) (m_1 : Int) (m_2 : List Int) (k0 : List Fl → List Fl → Bool) : Bool :=
  (S_binnaclelaw16_l x (fun (xsr : List Fl) => (S_binnaclelaw16_mat m_0 m_1 m_2 (fun (xsr_1 : List Fl) => (k0 xsr xsr_1)))))

def s_binnaclelaw16_of (N_ : Nat) : TS_binnaclelaw16_of := G_binnaclelaw16_of N_ (s_binnaclelaw16_l N_) (s_binnaclelaw16_mat N_)

abbrev TS_binnaclelaw16_f : Type := Int → (Fl → Bool) → Bool

def G_binnaclelaw16_f (N_ : Nat) (S_math_Float64frombits : TS_math_Float64frombits) (b : Int) (k0 : Fl → Bool) : Bool :=
  (S_math_Float64frombits b (fun (xr : Fl) => (k0 xr)))

def s_binnaclelaw16_f (N_ : Nat) : TS_binnaclelaw16_f := G_binnaclelaw16_f N_ (s_math_Float64frombits N_)

abbrev TS_matrix_size : Type := Int → (Bool → Bool) → Bool

def G_matrix_size (N_ : Nat) (n : Int) (k0 : Bool → Bool) : Bool :=
  (cond ((decide (n ≥ 0)) == true) (k0 (decide (n ≤ 12))) (k0 false))

def s_matrix_size (N_ : Nat) : TS_matrix_size := G_matrix_size N_

abbrev TS_anatomy_Class_2 : Type := Fl → (Int → Bool) → Bool

def s_anatomy_Class_2 (N_ : Nat) : TS_anatomy_Class_2 := fun x k => k (clsF x)

abbrev TS_anatomy_Finite : Type := List Fl → (Bool → Bool) → Bool

def st_anatomy_Finite_0 (N_ : Nat) (S_anatomy_Class_2 : TS_anatomy_Class_2) (t6 : List Fl) (t7 : Int) (e0 : Bool → Bool) (e1 : Bool) : (Int) → ((Int) → Bool) → Bool := fun v_ K => match v_ with
  | t8 => (cond (decide (t8 < t7)) ((inR t8 (List.length t6)) && (S_anatomy_Class_2 (List.getD t6 (Int.toNat t8) none) (fun (nr : Int) => (cond ((nr == 1) == false) (cond (nr == 2) (e0 false) ((fits .i64 (t8 + 1)) && (K (t8 + 1)))) (e0 false))))) e1)

def G_anatomy_Finite (N_ : Nat) (S_anatomy_Class_2 : TS_anatomy_Class_2) (l : List Fl) (k0 : Bool → Bool) : Bool :=
  (iterG N_ (st_anatomy_Finite_0 N_ S_anatomy_Class_2 l (((List.length l) : Nat) : Int) (fun (t2 : Bool) => (k0 t2)) (k0 true)) 0)

def s_anatomy_Finite (N_ : Nat) : TS_anatomy_Finite := G_anatomy_Finite N_ (s_anatomy_Class_2 N_)

abbrev TS_matrix_Check : Type := Int → Int → List Fl → (Int → Bool) → Bool

def G_matrix_Check (N_ : Nat) (S_matrix_size : TS_matrix_size) (S_anatomy_Finite : TS_anatomy_Finite) (m_0 : Int) (m_1 : Int) (m_2 : List Fl) (k0 : Int → Bool) : Bool :=
  (S_matrix_size m_0 (fun (cr : Bool) => (cond ((!cr) == false) (S_matrix_size m_1 (fun (cr_1 : Bool) => (cond (!cr_1) (k0 1) ((fits .i64 (m_0 * m_1)) && (cond ((((List.length m_2) : Nat) : Int) != (m_0 * m_1)) (k0 3) (S_anatomy_Finite m_2 (fun (cr_2 : Bool) => (cond (!cr_2) (k0 4) (k0 0))))))))) (k0 1))))

def s_matrix_Check (N_ : Nat) : TS_matrix_Check := G_matrix_Check N_ (s_matrix_size N_) (s_anatomy_Finite N_)

abbrev TS_matrix_at : Type := Int → Int → List Fl → Int → Int → (Fl → Bool) → Bool

def G_matrix_at (N_ : Nat) (m_0 : Int) (m_1 : Int) (m_2 : List Fl) (i : Int) (j : Int) (k0 : Fl → Bool) : Bool :=
  ((fits .i64 (i * m_1)) && ((fits .i64 ((i * m_1) + j)) && ((inR ((i * m_1) + j) (List.length m_2)) && (k0 (List.getD m_2 (Int.toNat ((i * m_1) + j)) none)))))

def s_matrix_at (N_ : Nat) : TS_matrix_at := G_matrix_at N_

abbrev TS_anatomy_Same_2 : Type := Fl → Fl → (Bool → Bool) → Bool

def s_anatomy_Same_2 (N_ : Nat) : TS_anatomy_Same_2 := fun x y k => k (decide (cn x = cn y))

abbrev TS_matrix_Lower : Type := Int → Int → List Fl → (Bool → Bool) → Bool

def st_matrix_Lower_2 (N_ : Nat) (S_matrix_Check : TS_matrix_Check) (S_matrix_at : TS_matrix_at) (S_anatomy_Same_2 : TS_anatomy_Same_2) (i : Int) (t16_1 : Int) (t17_1 : Int) (m_3 : Int) (m_4 : Int) (m_5 : List Fl) (e0 : Bool → Bool) (e1 : Bool) : (Int) → ((Int) → Bool) → Bool := fun v_ K => match v_ with
  | j => (cond (decide (j < m_4)) (S_matrix_at m_3 m_4 m_5 i j (fun (xr : Fl) => (S_anatomy_Same_2 xr (some 0) (fun (cr : Bool) => (cond (!cr) (e0 false) ((fits .i64 (j + 1)) && (K (j + 1)))))))) e1)

def st_matrix_Lower_0 (N_ : Nat) (S_matrix_Check : TS_matrix_Check) (S_matrix_at : TS_matrix_at) (S_anatomy_Same_2 : TS_anatomy_Same_2) (t16 : Int) (m : Int) (m_1 : Int) (m_2 : List Fl) (e0 : Bool → Bool) (e1 : Bool) : (Int) → ((Int) → Bool) → Bool := fun v_ K => match v_ with
  | t17 => (cond (decide (t17 < t16)) ((fits .i64 (t17 + 1)) && (iterG N_ (st_matrix_Lower_2 N_ S_matrix_Check S_matrix_at S_anatomy_Same_2 t17 t16 t17 m m_1 m_2 (fun (t2 : Bool) => (e0 t2)) ((fits .i64 (t17 + 1)) && (K (t17 + 1)))) (t17 + 1))) e1)

def G_matrix_Lower (N_ : Nat) (S_matrix_Check : TS_matrix_Check) (S_matrix_at : TS_matrix_at) (S_anatomy_Same_2 : TS_anatomy_Same_2) (m_0 : Int) (m_1 : Int) (m_2 : List Fl) (k0 : Bool → Bool) : Bool :=
  (S_matrix_Check m_0 m_1 m_2 (fun (nr : Int) => (cond ((nr != 0) == false) (cond (m_0 != m_1) (k0 false) (iterG N_ (st_matrix_Lower_0 N_ S_matrix_Check S_matrix_at S_anatomy_Same_2 m_0 m_0 m_1 m_2 (fun (t2_1 : Bool) => (k0 t2_1)) (k0 true)) 0)) (k0 false))))

def s_matrix_Lower (N_ : Nat) : TS_matrix_Lower := G_matrix_Lower N_ (s_matrix_Check N_) (s_matrix_at N_) (s_anatomy_Same_2 N_)

abbrev TS_root_above : Type := Int → Int → List Fl → (Bool → Bool) → Bool

def st_root_above_0 (N_ : Nat) (t5 : Int) (l : Int) (l_1 : Int) (l_2 : List Fl) (e0 : Bool → Bool) (e1 : Bool) : (Int) → ((Int) → Bool) → Bool := fun v_ K => match v_ with
  | t6 => (cond (decide (t6 < t5)) ((fits .i64 (t6 * l_1)) && ((fits .i64 ((t6 * l_1) + t6)) && ((inR ((t6 * l_1) + t6) (List.length l_2)) && (cond (!(fgt (List.getD l_2 (Int.toNat ((t6 * l_1) + t6)) none) (some 0))) (e0 false) ((fits .i64 (t6 + 1)) && (K (t6 + 1))))))) e1)

def G_root_above (N_ : Nat) (l_0 : Int) (l_1 : Int) (l_2 : List Fl) (k0 : Bool → Bool) : Bool :=
  (iterG N_ (st_root_above_0 N_ l_0 l_0 l_1 l_2 (fun (t2 : Bool) => (k0 t2)) (k0 true)) 0)

def s_root_above (N_ : Nat) : TS_root_above := G_root_above N_

abbrev TS_root_Check : Type := List Fl → Int → Int → List Fl → (Int → Bool) → Bool

def G_root_Check (N_ : Nat) (S_matrix_Check : TS_matrix_Check) (S_anatomy_Finite : TS_anatomy_Finite) (S_matrix_Lower : TS_matrix_Lower) (S_root_above : TS_root_above) (s_0 : List Fl) (s_1 : Int) (s_2 : Int) (s_3 : List Fl) (k0 : Int → Bool) : Bool :=
  (S_matrix_Check s_1 s_2 s_3 (fun (nr : Int) => (cond (nr != 0) (k0 nr) (cond ((s_1 != s_2) == false) (cond ((((List.length s_0) : Nat) : Int) != s_1) (k0 3) (S_anatomy_Finite s_0 (fun (cr : Bool) => (cond (!cr) (k0 4) (S_matrix_Lower s_1 s_2 s_3 (fun (cr_1 : Bool) => (cond ((!cr_1) == false) (S_root_above s_1 s_2 s_3 (fun (cr_2 : Bool) => (cond (!cr_2) (k0 93) (k0 0)))) (k0 93)))))))) (k0 3)))))

def s_root_Check (N_ : Nat) : TS_root_Check := G_root_Check N_ (s_matrix_Check N_) (s_anatomy_Finite N_) (s_matrix_Lower N_) (s_root_above N_)

abbrev TS_root_finite : Type := Fl → (Bool → Bool) → Bool

def G_root_finite (N_ : Nat) (x : Fl) (k0 : Bool → Bool) : Bool :=
  (k0 (feq (fsub x x) (some 0)))

def s_root_finite (N_ : Nat) : TS_root_finite := G_root_finite N_

abbrev TS_root_checkRow : Type := Int → List Fl → Fl → (Int → Bool) → Bool

def G_root_checkRow (N_ : Nat) (S_anatomy_Finite : TS_anatomy_Finite) (S_root_finite : TS_root_finite) (n : Int) (h : List Fl) (r : Fl) (k0 : Int → Bool) : Bool :=
  (cond ((((List.length h) : Nat) : Int) != n) (k0 3) (S_anatomy_Finite h (fun (cr : Bool) => (cond ((!cr) == false) (S_root_finite r (fun (cr_1 : Bool) => (cond (!cr_1) (k0 4) (cond (!(fgt r (some 0))) (k0 152) (k0 0))))) (k0 4)))))

def s_root_checkRow (N_ : Nat) : TS_root_checkRow := G_root_checkRow N_ (s_anatomy_Finite N_) (s_root_finite N_)

abbrev TS_root_steps_see : Type := Fl → Bool → (Bool → Bool) → Bool

def G_root_steps_see (N_ : Nat) (S_root_finite : TS_root_finite) (x : Fl) (b : Bool) (k0 : Bool → Bool) : Bool :=
  (cond (b == false) (S_root_finite x (fun (cr : Bool) => (k0 (!cr)))) (k0 true))

def s_root_steps_see (N_ : Nat) : TS_root_steps_see := G_root_steps_see N_ (s_root_finite N_)

abbrev TS_root_steps_dot : Type := List Fl → List Fl → Bool → (Fl → Bool → Bool) → Bool

def st_root_steps_dot_0 (N_ : Nat) (S_root_steps_see : TS_root_steps_see) (a_1 : List Fl) (b_2 : List Fl) (t10 : Int) (e0 : Fl → Bool → Bool) : (Fl × Int × Bool) → ((Fl × Int × Bool) → Bool) → Bool := fun v_ K => match v_ with
  | (t, t11, s) => (cond (decide (t11 < t10)) ((inR t11 (List.length a_1)) && ((inR t11 (List.length b_2)) && (S_root_steps_see (fmul (List.getD a_1 (Int.toNat t11) none) (List.getD b_2 (Int.toNat t11) none)) s (fun (cr : Bool) => (S_root_steps_see (fadd t (fmul (List.getD a_1 (Int.toNat t11) none) (List.getD b_2 (Int.toNat t11) none))) cr (fun (cr_1 : Bool) => ((fits .i64 (t11 + 1)) && (K ((fadd t (fmul (List.getD a_1 (Int.toNat t11) none) (List.getD b_2 (Int.toNat t11) none))), (t11 + 1), cr_1))))))))) (e0 t s))

def G_root_steps_dot (N_ : Nat) (S_root_steps_see : TS_root_steps_see) (a : List Fl) (b : List Fl) (b_1 : Bool) (k0 : Fl → Bool → Bool) : Bool :=
  (iterG N_ (st_root_steps_dot_0 N_ S_root_steps_see a b (((List.length a) : Nat) : Int) (fun (t_1 : Fl) (b0 : Bool) => (k0 t_1 b0))) ((some 0), 0, b_1))

def s_root_steps_dot (N_ : Nat) : TS_root_steps_dot := G_root_steps_dot N_ (s_root_steps_see N_)

abbrev TS_root_foresee : Type := List Fl → Int → Int → List Fl → List Fl → Fl → Bool → (Fl → Bool → List Fl → List Fl → Bool) → Bool

def st_root_foresee_2 (N_ : Nat) (S_root_steps_dot : TS_root_steps_dot) (S_root_steps_see : TS_root_steps_see) (h_3 : List Fl) (r_3 : Fl) (n_2 : Int) (j_1 : Int) (t24_2 : Int) (t25_2 : Int) (t28_1 : Int) (k__2 : Bool) (s_8 : List Fl) (s_9 : Int) (s_10 : Int) (s_11 : List Fl) (t8_2 : Fl) (o_2 : Fl) (b5_2 : List Fl) (b6 : List Fl) (e0 : List Fl → Bool) : (Int × List Fl) → ((Int × List Fl) → Bool) → Bool := fun v_ K => match v_ with
  | (t29_1, col) => (cond (decide (t29_1 < t28_1)) ((fits .i64 (t29_1 * n_2)) && ((fits .i64 ((t29_1 * n_2) + j_1)) && ((inR ((t29_1 * n_2) + j_1) (List.length s_11)) && ((decide ((List.length (col ++ [(List.getD s_11 (Int.toNat ((t29_1 * n_2) + j_1)) none)])) * 8 ≤ 140737488355328)) && ((fits .i64 (t29_1 + 1)) && (K ((t29_1 + 1), (col ++ [(List.getD s_11 (Int.toNat ((t29_1 * n_2) + j_1)) none)])))))))) (e0 col))

def st_root_foresee_0 (N_ : Nat) (S_root_steps_dot : TS_root_steps_dot) (S_root_steps_see : TS_root_steps_see) (h_1 : List Fl) (r_1 : Fl) (n : Int) (t24 : Int) (s : List Fl) (s_1 : Int) (s_2 : Int) (s_3 : List Fl) (t8 : Fl) (o : Fl) (b5 : List Fl) (e0 : Bool → List Fl → Bool) : (Int × Bool × List Fl) → ((Int × Bool × List Fl) → Bool) → Bool := fun v_ K => match v_ with
  | (t25, k_, b4) => (cond (decide (t25 < t24)) (iterG N_ (st_root_foresee_2 N_ S_root_steps_dot S_root_steps_see h_1 r_1 n t25 t24 t25 n k_ s s_1 s_2 s_3 t8 o b4 b5 (fun (col_1 : List Fl) => (S_root_steps_dot col_1 h_1 k_ (fun (xr : Fl) (cr : Bool) => ((inR t25 (List.length b4)) && ((decide ((Int.toNat t25) < (List.length b4))) && ((fits .i64 (t25 + 1)) && (K ((t25 + 1), cr, (List.set b4 (Int.toNat t25) xr)))))))))) (0, [])) (e0 k_ b4))

def st_root_foresee_4 (N_ : Nat) (S_root_steps_dot : TS_root_steps_dot) (S_root_steps_see : TS_root_steps_see) (t8_3 : Fl) (o_3 : Fl) (b3 : List Fl) (e0 : Bool → List Fl → Bool) : (Int × Bool × List Fl) → ((Int × Bool × List Fl) → Bool) → Bool := fun v_ K => match v_ with
  | (j_2, k__4, b4_3) => (cond (decide (j_2 ≥ 0)) ((fits .i64 (j_2 + 1)) && ((inR (j_2 + 1) (List.length b4_3)) && ((decide ((Int.toNat (j_2 + 1)) < (List.length b4_3))) && ((inR j_2 (List.length b3)) && ((decide ((Int.toNat j_2) < (List.length b3))) && ((inR j_2 (List.length b3)) && ((decide ((Int.toNat j_2) < (List.length b3))) && (S_root_steps_see (fmul (List.getD b3 (Int.toNat j_2) none) (List.getD b3 (Int.toNat j_2) none)) k__4 (fun (cr_2 : Bool) => (S_root_steps_see (fadd (List.getD b4_3 (Int.toNat (j_2 + 1)) none) (fmul (List.getD b3 (Int.toNat j_2) none) (List.getD b3 (Int.toNat j_2) none))) cr_2 (fun (cr_3 : Bool) => ((inR j_2 (List.length b4_3)) && ((decide ((Int.toNat j_2) < (List.length b4_3))) && ((fits .i64 (j_2 - 1)) && (K ((j_2 - 1), cr_3, (List.set b4_3 (Int.toNat j_2) (fadd (List.getD b4_3 (Int.toNat (j_2 + 1)) none) (fmul (List.getD b3 (Int.toNat j_2) none) (List.getD b3 (Int.toNat j_2) none)))))))))))))))))))) (e0 k__4 b4_3))

def G_root_foresee (N_ : Nat) (S_root_steps_dot : TS_root_steps_dot) (S_root_steps_see : TS_root_steps_see) (s_0 : List Fl) (s_1 : Int) (s_2 : Int) (s_3 : List Fl) (h : List Fl) (r : Fl) (b : Bool) (k0 : Fl → Bool → List Fl → List Fl → Bool) : Bool :=
  ((mkOk 8 (((List.length s_0) : Nat) : Int) (((List.length s_0) : Nat) : Int)) && ((fits .i64 ((((List.length s_0) : Nat) : Int) + 1)) && ((mkOk 8 ((((List.length s_0) : Nat) : Int) + 1) ((((List.length s_0) : Nat) : Int) + 1)) && (iterG N_ (st_root_foresee_0 N_ S_root_steps_dot S_root_steps_see h r (((List.length s_0) : Nat) : Int) (((List.length s_0) : Nat) : Int) s_0 s_1 s_2 s_3 (some 0) (some 0) (List.replicate (Int.toNat ((((List.length s_0) : Nat) : Int) + 1)) (some 0)) (fun (k__3 : Bool) (b4_2 : List Fl) => (S_root_steps_dot h s_0 k__3 (fun (xr_1 : Fl) (cr_1 : Bool) => ((inR (((List.length s_0) : Nat) : Int) (List.length (List.replicate (Int.toNat ((((List.length s_0) : Nat) : Int) + 1)) (some 0)))) && ((decide ((Int.toNat (((List.length s_0) : Nat) : Int)) < (List.length (List.replicate (Int.toNat ((((List.length s_0) : Nat) : Int) + 1)) (some 0))))) && ((fits .i64 ((((List.length s_0) : Nat) : Int) - 1)) && (iterG N_ (st_root_foresee_4 N_ S_root_steps_dot S_root_steps_see (some 0) xr_1 b4_2 (fun (b0 : Bool) (b4_4 : List Fl) => (k0 xr_1 b0 b4_2 b4_4))) (((((List.length s_0) : Nat) : Int) - 1), cr_1, (List.set (List.replicate (Int.toNat ((((List.length s_0) : Nat) : Int) + 1)) (some 0)) (Int.toNat (((List.length s_0) : Nat) : Int)) r)))))))))) (0, b, (List.replicate (Int.toNat (((List.length s_0) : Nat) : Int)) (some 0)))))))

def s_root_foresee (N_ : Nat) : TS_root_foresee := G_root_foresee N_ (s_root_steps_dot N_) (s_root_steps_see N_)

abbrev TS_root_Foresee : Type := List Fl → Int → Int → List Fl → List Fl → Fl → (Fl → Fl → Int → Bool) → Bool

def G_root_Foresee (N_ : Nat) (S_root_Check : TS_root_Check) (S_root_checkRow : TS_root_checkRow) (S_root_foresee : TS_root_foresee) (s_0 : List Fl) (s_1 : Int) (s_2 : Int) (s_3 : List Fl) (h : List Fl) (r : Fl) (k0 : Fl → Fl → Int → Bool) : Bool :=
  (S_root_Check s_0 s_1 s_2 s_3 (fun (nr : Int) => (cond (nr != 0) (k0 (some 0) (some 0) nr) (S_root_checkRow (((List.length s_0) : Nat) : Int) h r (fun (nr_1 : Int) => (cond (nr_1 != 0) (k0 (some 0) (some 0) nr_1) (S_root_foresee s_0 s_1 s_2 s_3 h r false (fun (xr : Fl) (cr : Bool) (xsr : List Fl) (xsr_1 : List Fl) => (cond cr (k0 (some 0) (some 0) 5) ((inR 0 (List.length xsr_1)) && ((decide (0 < (List.length xsr_1))) && (k0 xr (List.getD xsr_1 0 none) 0))))))))))))

def s_root_Foresee (N_ : Nat) : TS_root_Foresee := G_root_Foresee N_ (s_root_Check N_) (s_root_checkRow N_) (s_root_foresee N_)

abbrev TS_math_Float64bits_2 : Type := Fl → (Int → Bool) → Bool

def s_math_Float64bits_2 (N_ : Nat) : TS_math_Float64bits_2 := fun x k => match x with | some b => k b | none => false

abbrev TS_binnacleref01_Bits : Type := Fl → (Int → Bool) → Bool

def G_binnacleref01_Bits (N_ : Nat) (S_math_Float64bits_2 : TS_math_Float64bits_2) (x : Fl) (k0 : Int → Bool) : Bool :=
  (cond (!feq x x) (k0 9221120237041090561) (S_math_Float64bits_2 x (fun (nr : Int) => (k0 nr))))

def s_binnacleref01_Bits (N_ : Nat) : TS_binnacleref01_Bits := G_binnacleref01_Bits N_ (s_math_Float64bits_2 N_)

abbrev TS_binnacleref01_Split : Type := Fl → (Bool → Int → Int → Bool) → Bool

def G_binnacleref01_Split (N_ : Nat) (S_binnacleref01_Bits : TS_binnacleref01_Bits) (x : Fl) (k0 : Bool → Int → Int → Bool) : Bool :=
  (S_binnacleref01_Bits x (fun (nr : Int) => ((fits .i64 (Int.tmod (Int.fdiv nr (2 ^ 52)) 2048)) && (k0 ((Int.fdiv nr (2 ^ 63)) == 1) (Int.tmod (Int.fdiv nr (2 ^ 52)) 2048) (Int.tmod nr 4503599627370496)))))

def s_binnacleref01_Split (N_ : Nat) : TS_binnacleref01_Split := G_binnacleref01_Split N_ (s_binnacleref01_Bits N_)

abbrev TS_binnacleref01_classify : Type := Int → Int → Int → (Int → Bool) → Bool

def G_binnacleref01_classify (N_ : Nat) (exp : Int) (frac : Int) (most : Int) (k0 : Int → Bool) : Bool :=
  (cond ((exp == most) == true) (cond (frac != 0) (k0 1) (cond (exp == most) (k0 2) (cond ((exp == 0) == true) (cond (frac == 0) (k0 3) (cond (exp == 0) (k0 4) (k0 5))) (cond (exp == 0) (k0 4) (k0 5))))) (cond (exp == most) (k0 2) (cond ((exp == 0) == true) (cond (frac == 0) (k0 3) (cond (exp == 0) (k0 4) (k0 5))) (cond (exp == 0) (k0 4) (k0 5)))))

def s_binnacleref01_classify (N_ : Nat) : TS_binnacleref01_classify := G_binnacleref01_classify N_

abbrev TS_binnacleref01_Class : Type := Fl → (Int → Bool) → Bool

def G_binnacleref01_Class (N_ : Nat) (S_binnacleref01_Split : TS_binnacleref01_Split) (S_binnacleref01_classify : TS_binnacleref01_classify) (x : Fl) (k0 : Int → Bool) : Bool :=
  (S_binnacleref01_Split x (fun (cr : Bool) (nr : Int) (nr_1 : Int) => (S_binnacleref01_classify nr nr_1 2047 (fun (nr_2 : Int) => (k0 nr_2)))))

def s_binnacleref01_Class (N_ : Nat) : TS_binnacleref01_Class := G_binnacleref01_Class N_ (s_binnacleref01_Split N_) (s_binnacleref01_classify N_)

abbrev TS_binnacleref01_Finite : Type := Fl → (Bool → Bool) → Bool

def G_binnacleref01_Finite (N_ : Nat) (S_binnacleref01_Class : TS_binnacleref01_Class) (x : Fl) (k0 : Bool → Bool) : Bool :=
  (S_binnacleref01_Class x (fun (nr : Int) => (k0 (decide (nr > 2)))))

def s_binnacleref01_Finite (N_ : Nat) : TS_binnacleref01_Finite := G_binnacleref01_Finite N_ (s_binnacleref01_Class N_)

abbrev TS_binnacleref01_AllFinite : Type := List Fl → (Bool → Bool) → Bool

def st_binnacleref01_AllFinite_0 (N_ : Nat) (S_binnacleref01_Finite : TS_binnacleref01_Finite) (t5 : List Fl) (t6 : Int) (e0 : Bool → Bool) (e1 : Bool) : (Int) → ((Int) → Bool) → Bool := fun v_ K => match v_ with
  | t7 => (cond (decide (t7 < t6)) ((inR t7 (List.length t5)) && (S_binnacleref01_Finite (List.getD t5 (Int.toNat t7) none) (fun (cr : Bool) => (cond (!cr) (e0 false) ((fits .i64 (t7 + 1)) && (K (t7 + 1))))))) e1)

def G_binnacleref01_AllFinite (N_ : Nat) (S_binnacleref01_Finite : TS_binnacleref01_Finite) (l : List Fl) (k0 : Bool → Bool) : Bool :=
  (iterG N_ (st_binnacleref01_AllFinite_0 N_ S_binnacleref01_Finite l (((List.length l) : Nat) : Int) (fun (t2 : Bool) => (k0 t2)) (k0 true)) 0)

def s_binnacleref01_AllFinite (N_ : Nat) : TS_binnacleref01_AllFinite := G_binnacleref01_AllFinite N_ (s_binnacleref01_Finite N_)

abbrev TS_binnacleref08_Check : Type := Int → Int → List Fl → (Int → Bool) → Bool

def G_binnacleref08_Check (N_ : Nat) (S_binnacleref01_AllFinite : TS_binnacleref01_AllFinite) (m_0 : Int) (m_1 : Int) (m_2 : List Fl) (k0 : Int → Bool) : Bool :=
  (cond ((decide (m_0 < 0)) == false) (cond ((decide (m_0 > 12)) == false) (cond ((decide (m_1 < 0)) == false) (cond (decide (m_1 > 12)) (k0 1) ((fits .i64 (m_0 * m_1)) && (cond ((((List.length m_2) : Nat) : Int) != (m_0 * m_1)) (k0 3) (S_binnacleref01_AllFinite m_2 (fun (cr : Bool) => (cond (!cr) (k0 4) (k0 0))))))) (k0 1)) (k0 1)) (k0 1))

def s_binnacleref08_Check (N_ : Nat) : TS_binnacleref08_Check := G_binnacleref08_Check N_ (s_binnacleref01_AllFinite N_)

abbrev TS_binnacleref03_shape : Type := Int → Int → Int → (Int → Bool) → Bool

def G_binnacleref03_shape (N_ : Nat) (rows : Int) (cols : Int) (n : Int) (k0 : Int → Bool) : Bool :=
  (cond ((decide (rows < 0)) == false) (cond ((decide (rows > 12)) == false) (cond ((decide (cols < 0)) == false) (cond (decide (cols > 12)) (k0 1) ((fits .i64 (rows * cols)) && (cond (n != (rows * cols)) (k0 3) (k0 0)))) (k0 1)) (k0 1)) (k0 1))

def s_binnacleref03_shape (N_ : Nat) : TS_binnacleref03_shape := G_binnacleref03_shape N_

abbrev TS_binnacleref03_Good : Type := Int → Int → List Fl → (Int → Bool) → Bool

def G_binnacleref03_Good (N_ : Nat) (S_binnacleref03_shape : TS_binnacleref03_shape) (S_binnacleref01_AllFinite : TS_binnacleref01_AllFinite) (m_0 : Int) (m_1 : Int) (m_2 : List Fl) (k0 : Int → Bool) : Bool :=
  (S_binnacleref03_shape m_0 m_1 (((List.length m_2) : Nat) : Int) (fun (nr : Int) => (cond (nr != 0) (k0 nr) (S_binnacleref01_AllFinite m_2 (fun (cr : Bool) => (cond (!cr) (k0 4) (k0 0)))))))

def s_binnacleref03_Good (N_ : Nat) : TS_binnacleref03_Good := G_binnacleref03_Good N_ (s_binnacleref03_shape N_) (s_binnacleref01_AllFinite N_)

abbrev TS_binnacleref09_At : Type := Int → Int → List Fl → Int → Int → (Fl → Bool) → Bool

def G_binnacleref09_At (N_ : Nat) (m_0 : Int) (m_1 : Int) (m_2 : List Fl) (i : Int) (j : Int) (k0 : Fl → Bool) : Bool :=
  ((fits .i64 (i * m_1)) && ((fits .i64 ((i * m_1) + j)) && ((inR ((i * m_1) + j) (List.length m_2)) && (k0 (List.getD m_2 (Int.toNat ((i * m_1) + j)) none)))))

def s_binnacleref09_At (N_ : Nat) : TS_binnacleref09_At := G_binnacleref09_At N_

abbrev TS_binnacleref01_Same : Type := Fl → Fl → (Bool → Bool) → Bool

def G_binnacleref01_Same (N_ : Nat) (S_binnacleref01_Bits : TS_binnacleref01_Bits) (a : Fl) (b : Fl) (k0 : Bool → Bool) : Bool :=
  (S_binnacleref01_Bits a (fun (nr : Int) => (S_binnacleref01_Bits b (fun (nr_1 : Int) => (k0 (nr == nr_1))))))

def s_binnacleref01_Same (N_ : Nat) : TS_binnacleref01_Same := G_binnacleref01_Same N_ (s_binnacleref01_Bits N_)

abbrev TS_binnacleref09_Triangle : Type := Int → Int → List Fl → (Int → Bool) → Bool

def st_binnacleref09_Triangle_2 (N_ : Nat) (S_binnacleref03_Good : TS_binnacleref03_Good) (S_binnacleref09_At : TS_binnacleref09_At) (S_binnacleref01_Same : TS_binnacleref01_Same) (i_1 : Int) (m_3 : Int) (m_4 : Int) (m_5 : List Fl) (e0 : Int → Bool) (e1 : Bool) : (Int) → ((Int) → Bool) → Bool := fun v_ K => match v_ with
  | j => (cond (decide (j < m_4)) (S_binnacleref09_At m_3 m_4 m_5 i_1 j (fun (xr_1 : Fl) => (S_binnacleref01_Same xr_1 (some 0) (fun (cr : Bool) => (cond (!cr) (e0 93) ((fits .i64 (j + 1)) && (K (j + 1)))))))) e1)

def st_binnacleref09_Triangle_0 (N_ : Nat) (S_binnacleref03_Good : TS_binnacleref03_Good) (S_binnacleref09_At : TS_binnacleref09_At) (S_binnacleref01_Same : TS_binnacleref01_Same) (m : Int) (m_1 : Int) (m_2 : List Fl) (e0 : Int → Bool) (e1 : Bool) : (Int) → ((Int) → Bool) → Bool := fun v_ K => match v_ with
  | i => (cond (decide (i < m)) (S_binnacleref09_At m m_1 m_2 i i (fun (xr : Fl) => (cond (!(fgt xr (some 0))) (e0 93) ((fits .i64 (i + 1)) && (iterG N_ (st_binnacleref09_Triangle_2 N_ S_binnacleref03_Good S_binnacleref09_At S_binnacleref01_Same i m m_1 m_2 (fun (t2 : Int) => (e0 t2)) ((fits .i64 (i + 1)) && (K (i + 1)))) (i + 1)))))) e1)

def G_binnacleref09_Triangle (N_ : Nat) (S_binnacleref03_Good : TS_binnacleref03_Good) (S_binnacleref09_At : TS_binnacleref09_At) (S_binnacleref01_Same : TS_binnacleref01_Same) (m_0 : Int) (m_1 : Int) (m_2 : List Fl) (k0 : Int → Bool) : Bool :=
  (S_binnacleref03_Good m_0 m_1 m_2 (fun (nr : Int) => (cond (nr != 0) (k0 nr) (cond (m_0 != m_1) (k0 3) (iterG N_ (st_binnacleref09_Triangle_0 N_ S_binnacleref03_Good S_binnacleref09_At S_binnacleref01_Same m_0 m_1 m_2 (fun (t2_1 : Int) => (k0 t2_1)) (k0 0)) 0)))))

def s_binnacleref09_Triangle (N_ : Nat) : TS_binnacleref09_Triangle := G_binnacleref09_Triangle N_ (s_binnacleref03_Good N_) (s_binnacleref09_At N_) (s_binnacleref01_Same N_)

abbrev TS_binnacleref16_Check : Type := List Fl → Int → Int → List Fl → (Int → Bool) → Bool

def G_binnacleref16_Check (N_ : Nat) (S_binnacleref08_Check : TS_binnacleref08_Check) (S_binnacleref01_AllFinite : TS_binnacleref01_AllFinite) (S_binnacleref09_Triangle : TS_binnacleref09_Triangle) (s_0 : List Fl) (s_1 : Int) (s_2 : Int) (s_3 : List Fl) (k0 : Int → Bool) : Bool :=
  (S_binnacleref08_Check s_1 s_2 s_3 (fun (nr : Int) => (cond (nr != 0) (k0 nr) (cond ((s_1 != s_2) == false) (cond ((((List.length s_0) : Nat) : Int) != s_1) (k0 3) (S_binnacleref01_AllFinite s_0 (fun (cr : Bool) => (cond (!cr) (k0 4) (S_binnacleref09_Triangle s_1 s_2 s_3 (fun (nr_1 : Int) => (k0 nr_1))))))) (k0 3)))))

def s_binnacleref16_Check (N_ : Nat) : TS_binnacleref16_Check := G_binnacleref16_Check N_ (s_binnacleref08_Check N_) (s_binnacleref01_AllFinite N_) (s_binnacleref09_Triangle N_)

abbrev TS_binnacleref15_Row : Type := Int → List Fl → Fl → (Int → Bool) → Bool

def G_binnacleref15_Row (N_ : Nat) (S_binnacleref01_AllFinite : TS_binnacleref01_AllFinite) (S_binnacleref01_Finite : TS_binnacleref01_Finite) (n : Int) (h : List Fl) (r : Fl) (k0 : Int → Bool) : Bool :=
  (cond ((((List.length h) : Nat) : Int) != n) (k0 3) (S_binnacleref01_AllFinite h (fun (cr : Bool) => (cond ((!cr) == false) (S_binnacleref01_Finite r (fun (cr_1 : Bool) => (cond (!cr_1) (k0 4) (cond (!(fgt r (some 0))) (k0 152) (k0 0))))) (k0 4)))))

def s_binnacleref15_Row (N_ : Nat) : TS_binnacleref15_Row := G_binnacleref15_Row N_ (s_binnacleref01_AllFinite N_) (s_binnacleref01_Finite N_)

abbrev TS_binnacleref08_First : Type := List Int → (Int → Bool) → Bool

def st_binnacleref08_First_0 (N_ : Nat) (l_1 : List Int) (e0 : Int → Bool) (e1 : Bool) : (Int) → ((Int) → Bool) → Bool := fun v_ K => match v_ with
  | i => (cond (decide (i < (((List.length l_1) : Nat) : Int))) ((inR i (List.length l_1)) && (cond ((List.getD l_1 (Int.toNat i) 0) != 0) ((inR i (List.length l_1)) && (e0 (List.getD l_1 (Int.toNat i) 0))) ((fits .i64 (i + 1)) && (K (i + 1))))) e1)

def G_binnacleref08_First (N_ : Nat) (l : List Int) (k0 : Int → Bool) : Bool :=
  (iterG N_ (st_binnacleref08_First_0 N_ l (fun (t2 : Int) => (k0 t2)) (k0 0)) 0)

def s_binnacleref08_First (N_ : Nat) : TS_binnacleref08_First := G_binnacleref08_First N_

abbrev TS_binnacleref09_Steps_S : Type := Fl → Bool → (Bool → Bool) → Bool

def G_binnacleref09_Steps_S (N_ : Nat) (S_binnacleref01_Finite : TS_binnacleref01_Finite) (x : Fl) (b : Bool) (k0 : Bool → Bool) : Bool :=
  (cond (b == false) (S_binnacleref01_Finite x (fun (cr : Bool) => (k0 (!cr)))) (k0 true))

def s_binnacleref09_Steps_S (N_ : Nat) : TS_binnacleref09_Steps_S := G_binnacleref09_Steps_S N_ (s_binnacleref01_Finite N_)

abbrev TS_binnacleref09_Steps_Dot : Type := List Fl → List Fl → Bool → (Fl → Bool → Bool) → Bool

def st_binnacleref09_Steps_Dot_0 (N_ : Nat) (S_binnacleref09_Steps_S : TS_binnacleref09_Steps_S) (a_1 : List Fl) (b_2 : List Fl) (t10 : Int) (e0 : Fl → Bool → Bool) : (Fl × Int × Bool) → ((Fl × Int × Bool) → Bool) → Bool := fun v_ K => match v_ with
  | (t, t11, s) => (cond (decide (t11 < t10)) ((inR t11 (List.length a_1)) && ((inR t11 (List.length b_2)) && (S_binnacleref09_Steps_S (fmul (List.getD a_1 (Int.toNat t11) none) (List.getD b_2 (Int.toNat t11) none)) s (fun (cr : Bool) => (S_binnacleref09_Steps_S (fadd t (fmul (List.getD a_1 (Int.toNat t11) none) (List.getD b_2 (Int.toNat t11) none))) cr (fun (cr_1 : Bool) => ((fits .i64 (t11 + 1)) && (K ((fadd t (fmul (List.getD a_1 (Int.toNat t11) none) (List.getD b_2 (Int.toNat t11) none))), (t11 + 1), cr_1))))))))) (e0 t s))

def G_binnacleref09_Steps_Dot (N_ : Nat) (S_binnacleref09_Steps_S : TS_binnacleref09_Steps_S) (a : List Fl) (b : List Fl) (b_1 : Bool) (k0 : Fl → Bool → Bool) : Bool :=
  (iterG N_ (st_binnacleref09_Steps_Dot_0 N_ S_binnacleref09_Steps_S a b (((List.length a) : Nat) : Int) (fun (t_1 : Fl) (b0 : Bool) => (k0 t_1 b0))) ((some 0), 0, b_1))

def s_binnacleref09_Steps_Dot (N_ : Nat) : TS_binnacleref09_Steps_Dot := G_binnacleref09_Steps_Dot N_ (s_binnacleref09_Steps_S N_)

abbrev TS_binnacleref08_At : Type := Int → Int → List Fl → Int → Int → (Fl → Bool) → Bool

def G_binnacleref08_At (N_ : Nat) (m_0 : Int) (m_1 : Int) (m_2 : List Fl) (i : Int) (j : Int) (k0 : Fl → Bool) : Bool :=
  ((fits .i64 (i * m_1)) && ((fits .i64 ((i * m_1) + j)) && ((inR ((i * m_1) + j) (List.length m_2)) && (k0 (List.getD m_2 (Int.toNat ((i * m_1) + j)) none)))))

def s_binnacleref08_At (N_ : Nat) : TS_binnacleref08_At := G_binnacleref08_At N_

abbrev TS_binnacleref08_Col : Type := Int → Int → List Fl → Int → (List Fl → Bool) → Bool

def st_binnacleref08_Col_0 (N_ : Nat) (S_binnacleref08_At : TS_binnacleref08_At) (j_2 : Int) (m_3 : Int) (m_4 : Int) (m_5 : List Fl) (e0 : List Fl → Bool) : (Int × List Fl) → ((Int × List Fl) → Bool) → Bool := fun v_ K => match v_ with
  | (i_1, out) => (cond (decide (i_1 < m_3)) (S_binnacleref08_At m_3 m_4 m_5 i_1 j_2 (fun (xr_1 : Fl) => ((decide ((List.length (out ++ [xr_1])) * 8 ≤ 140737488355328)) && ((fits .i64 (i_1 + 1)) && (K ((i_1 + 1), (out ++ [xr_1]))))))) (e0 out))

def G_binnacleref08_Col (N_ : Nat) (S_binnacleref08_At : TS_binnacleref08_At) (m_0 : Int) (m_1 : Int) (m_2 : List Fl) (j : Int) (k0 : List Fl → Bool) : Bool :=
  (iterG N_ (st_binnacleref08_Col_0 N_ S_binnacleref08_At j m_0 m_1 m_2 (fun (out_1 : List Fl) => (k0 out_1))) (0, []))

def s_binnacleref08_Col (N_ : Nat) : TS_binnacleref08_Col := G_binnacleref08_Col N_ (s_binnacleref08_At N_)

abbrev TS_binnacleref16_seen : Type := List Fl → Int → Int → List Fl → List Fl → Fl → Bool → (Fl → Bool → List Fl → List Fl → Bool) → Bool

def st_binnacleref16_seen_0 (N_ : Nat) (S_binnacleref09_Steps_Dot : TS_binnacleref09_Steps_Dot) (S_binnacleref08_Col : TS_binnacleref08_Col) (S_binnacleref09_Steps_S : TS_binnacleref09_Steps_S) (h_1 : List Fl) (n : Int) (m : Fl) (s : List Fl) (s_1 : Int) (s_2 : Int) (s_3 : List Fl) (a : List Fl) (e0 : Bool → List Fl → Bool) : (Int × Bool × List Fl) → ((Int × Bool × List Fl) → Bool) → Bool := fun v_ K => match v_ with
  | (j, steps, v) => (cond (decide (j < n)) (S_binnacleref08_Col s_1 s_2 s_3 j (fun (xsr : List Fl) => (S_binnacleref09_Steps_Dot xsr h_1 steps (fun (xr_1 : Fl) (cr_1 : Bool) => ((inR j (List.length v)) && ((decide ((Int.toNat j) < (List.length v))) && ((fits .i64 (j + 1)) && (K ((j + 1), cr_1, (List.set v (Int.toNat j) xr_1)))))))))) (e0 steps v))

def st_binnacleref16_seen_2 (N_ : Nat) (S_binnacleref09_Steps_Dot : TS_binnacleref09_Steps_Dot) (S_binnacleref08_Col : TS_binnacleref08_Col) (S_binnacleref09_Steps_S : TS_binnacleref09_Steps_S) (m_1 : Fl) (v_2 : List Fl) (e0 : Bool → List Fl → Bool) : (Int × Bool × List Fl) → ((Int × Bool × List Fl) → Bool) → Bool := fun v_ K => match v_ with
  | (j_1, steps_2, a_1) => (cond (decide (j_1 ≥ 0)) ((fits .i64 (j_1 + 1)) && ((inR (j_1 + 1) (List.length a_1)) && ((decide ((Int.toNat (j_1 + 1)) < (List.length a_1))) && ((inR j_1 (List.length v_2)) && ((decide ((Int.toNat j_1) < (List.length v_2))) && ((inR j_1 (List.length v_2)) && ((decide ((Int.toNat j_1) < (List.length v_2))) && (S_binnacleref09_Steps_S (fmul (List.getD v_2 (Int.toNat j_1) none) (List.getD v_2 (Int.toNat j_1) none)) steps_2 (fun (cr_2 : Bool) => (S_binnacleref09_Steps_S (fadd (List.getD a_1 (Int.toNat (j_1 + 1)) none) (fmul (List.getD v_2 (Int.toNat j_1) none) (List.getD v_2 (Int.toNat j_1) none))) cr_2 (fun (cr_3 : Bool) => ((inR j_1 (List.length a_1)) && ((decide ((Int.toNat j_1) < (List.length a_1))) && ((fits .i64 (j_1 - 1)) && (K ((j_1 - 1), cr_3, (List.set a_1 (Int.toNat j_1) (fadd (List.getD a_1 (Int.toNat (j_1 + 1)) none) (fmul (List.getD v_2 (Int.toNat j_1) none) (List.getD v_2 (Int.toNat j_1) none)))))))))))))))))))) (e0 steps_2 a_1))

def G_binnacleref16_seen (N_ : Nat) (S_binnacleref09_Steps_Dot : TS_binnacleref09_Steps_Dot) (S_binnacleref08_Col : TS_binnacleref08_Col) (S_binnacleref09_Steps_S : TS_binnacleref09_Steps_S) (s_0 : List Fl) (s_1 : Int) (s_2 : Int) (s_3 : List Fl) (h : List Fl) (r : Fl) (b : Bool) (k0 : Fl → Bool → List Fl → List Fl → Bool) : Bool :=
  ((mkOk 8 (((List.length h) : Nat) : Int) (((List.length h) : Nat) : Int)) && ((fits .i64 ((((List.length h) : Nat) : Int) + 1)) && ((mkOk 8 ((((List.length h) : Nat) : Int) + 1) ((((List.length h) : Nat) : Int) + 1)) && (S_binnacleref09_Steps_Dot h s_0 b (fun (xr : Fl) (cr : Bool) => ((inR (((List.length h) : Nat) : Int) (List.length (List.replicate (Int.toNat ((((List.length h) : Nat) : Int) + 1)) (some 0)))) && ((decide ((Int.toNat (((List.length h) : Nat) : Int)) < (List.length (List.replicate (Int.toNat ((((List.length h) : Nat) : Int) + 1)) (some 0))))) && (iterG N_ (st_binnacleref16_seen_0 N_ S_binnacleref09_Steps_Dot S_binnacleref08_Col S_binnacleref09_Steps_S h (((List.length h) : Nat) : Int) xr s_0 s_1 s_2 s_3 (List.set (List.replicate (Int.toNat ((((List.length h) : Nat) : Int) + 1)) (some 0)) (Int.toNat (((List.length h) : Nat) : Int)) r) (fun (steps_1 : Bool) (v_1 : List Fl) => ((fits .i64 ((((List.length h) : Nat) : Int) - 1)) && (iterG N_ (st_binnacleref16_seen_2 N_ S_binnacleref09_Steps_Dot S_binnacleref08_Col S_binnacleref09_Steps_S xr v_1 (fun (b0 : Bool) (a_2 : List Fl) => (k0 xr b0 v_1 a_2))) (((((List.length h) : Nat) : Int) - 1), steps_1, (List.set (List.replicate (Int.toNat ((((List.length h) : Nat) : Int) + 1)) (some 0)) (Int.toNat (((List.length h) : Nat) : Int)) r)))))) (0, cr, (List.replicate (Int.toNat (((List.length h) : Nat) : Int)) (some 0)))))))))))

def s_binnacleref16_seen (N_ : Nat) : TS_binnacleref16_seen := G_binnacleref16_seen N_ (s_binnacleref09_Steps_Dot N_) (s_binnacleref08_Col N_) (s_binnacleref09_Steps_S N_)

abbrev TS_binnacleref16_Foresee : Type := List Fl → Int → Int → List Fl → List Fl → Fl → (Fl → Fl → Int → Bool) → Bool

def G_binnacleref16_Foresee (N_ : Nat) (S_binnacleref16_Check : TS_binnacleref16_Check) (S_binnacleref15_Row : TS_binnacleref15_Row) (S_binnacleref08_First : TS_binnacleref08_First) (S_binnacleref16_seen : TS_binnacleref16_seen) (s_0 : List Fl) (s_1 : Int) (s_2 : Int) (s_3 : List Fl) (h : List Fl) (r : Fl) (k0 : Fl → Fl → Int → Bool) : Bool :=
  (S_binnacleref16_Check s_0 s_1 s_2 s_3 (fun (nr : Int) => (S_binnacleref15_Row (((List.length s_0) : Nat) : Int) h r (fun (nr_1 : Int) => (S_binnacleref08_First [nr, nr_1] (fun (nr_2 : Int) => (cond (nr_2 != 0) (k0 (some 0) (some 0) nr_2) (S_binnacleref16_seen s_0 s_1 s_2 s_3 h r false (fun (xr : Fl) (cr : Bool) (xsr : List Fl) (xsr_1 : List Fl) => (cond cr (k0 (some 0) (some 0) 5) ((inR 0 (List.length xsr_1)) && ((decide (0 < (List.length xsr_1))) && (k0 xr (List.getD xsr_1 0 none) 0)))))))))))))

def s_binnacleref16_Foresee (N_ : Nat) : TS_binnacleref16_Foresee := G_binnacleref16_Foresee N_ (s_binnacleref16_Check N_) (s_binnacleref15_Row N_) (s_binnacleref08_First N_) (s_binnacleref16_seen N_)

abbrev TS_binnaclelaw16_same : Type := Fl → Fl → (Bool → Bool) → Bool

def G_binnaclelaw16_same (N_ : Nat) (S_math_Float64bits_2 : TS_math_Float64bits_2) (S_binnacleref01_Bits : TS_binnacleref01_Bits) (a : Fl) (b : Fl) (k0 : Bool → Bool) : Bool :=
  (S_math_Float64bits_2 a (fun (nr : Int) => (S_binnacleref01_Bits b (fun (nr_1 : Int) => (k0 (nr == nr_1))))))

def s_binnaclelaw16_same (N_ : Nat) : TS_binnaclelaw16_same := G_binnaclelaw16_same N_ (s_math_Float64bits_2 N_) (s_binnacleref01_Bits N_)

abbrev TS_matrix_Zero_1 : Type := Int → Int → (Fl → Bool) → Bool

def G_matrix_Zero_1 (N_ : Nat) (i : Int) (j : Int) (k0 : Fl → Bool) : Bool :=
  (k0 (some 0))

def s_matrix_Zero_1 (N_ : Nat) : TS_matrix_Zero_1 := G_matrix_Zero_1 N_

abbrev TS_matrix_fill : Type := Int → Int → (List Fl → Bool) → Bool

def st_matrix_fill_2 (N_ : Nat) (S_matrix_Zero_1 : TS_matrix_Zero_1) (cols_2 : Int) (i : Int) (t17_1 : Int) (t18_1 : Int) (t21 : Int) (t6_2 : Int) (t6_3 : Int) (m_2 : Int) (m_3 : Int) (e0 : List Fl → Bool) : (Int × List Fl) → ((Int × List Fl) → Bool) → Bool := fun v_ K => match v_ with
  | (t22, b2_1) => (cond (decide (t22 < t21)) (S_matrix_Zero_1 i t22 (fun (xr : Fl) => ((decide ((List.length (b2_1 ++ [xr])) * 8 ≤ 140737488355328)) && ((fits .i64 (t22 + 1)) && (K ((t22 + 1), (b2_1 ++ [xr]))))))) (e0 b2_1))

def st_matrix_fill_0 (N_ : Nat) (S_matrix_Zero_1 : TS_matrix_Zero_1) (cols_1 : Int) (t17 : Int) (t6 : Int) (t6_1 : Int) (m : Int) (m_1 : Int) (e0 : List Fl → Bool) : (Int × List Fl) → ((Int × List Fl) → Bool) → Bool := fun v_ K => match v_ with
  | (t18, b2) => (cond (decide (t18 < t17)) (iterG N_ (st_matrix_fill_2 N_ S_matrix_Zero_1 cols_1 t18 t17 t18 cols_1 t6 t6_1 m m_1 (fun (b2_2 : List Fl) => ((fits .i64 (t18 + 1)) && (K ((t18 + 1), b2_2))))) (0, b2)) (e0 b2))

def G_matrix_fill (N_ : Nat) (S_matrix_Zero_1 : TS_matrix_Zero_1) (rows : Int) (cols : Int) (k0 : List Fl → Bool) : Bool :=
  ((fits .i64 (rows * cols)) && ((mkOk 8 0 (rows * cols)) && (iterG N_ (st_matrix_fill_0 N_ S_matrix_Zero_1 cols rows 0 0 rows cols (fun (b2_3 : List Fl) => (k0 b2_3))) (0, []))))

def s_matrix_fill (N_ : Nat) : TS_matrix_fill := G_matrix_fill N_ (s_matrix_Zero_1 N_)

abbrev TS_matrix_Zero : Type := Int → Int → (Int → Int → Int → Bool) → (Int → List Fl → Bool) → Bool

def G_matrix_Zero (N_ : Nat) (S_matrix_size : TS_matrix_size) (S_matrix_fill : TS_matrix_fill) (rows : Int) (cols : Int) (k0 : Int → Int → Int → Bool) (k1 : Int → List Fl → Bool) : Bool :=
  (S_matrix_size rows (fun (cr : Bool) => (cond ((!cr) == false) (S_matrix_size cols (fun (cr_1 : Bool) => (cond (!cr_1) (k0 0 0 1) (S_matrix_fill rows cols (fun (xsr : List Fl) => (k1 0 xsr)))))) (k0 0 0 1))))

def s_matrix_Zero (N_ : Nat) : TS_matrix_Zero := G_matrix_Zero N_ (s_matrix_size N_) (s_matrix_fill N_)

abbrev TS_math_sqrt : Type := Fl → (Fl → Bool) → Bool

def s_math_sqrt (N_ : Nat) : TS_math_sqrt := fun x k => k (fsqrt x)

abbrev TS_math_Sqrt : Type := Fl → (Fl → Bool) → Bool

def G_math_Sqrt (N_ : Nat) (S_math_sqrt : TS_math_sqrt) (x : Fl) (k0 : Fl → Bool) : Bool :=
  (S_math_sqrt x (fun (xr : Fl) => (k0 xr)))

def s_math_Sqrt (N_ : Nat) : TS_math_Sqrt := G_math_Sqrt N_ (s_math_sqrt N_)

abbrev TS_root_carlson : Type := List Fl → Int → Int → List Fl → Fl → List Fl → List Fl → Bool → (Int → Int → Bool → List Fl → Bool) → (Int → Int → Bool → List Fl → List Fl → Bool) → Bool

def st_root_carlson_2 (N_ : Nat) (S_matrix_Zero : TS_matrix_Zero) (S_math_Sqrt : TS_math_Sqrt) (S_root_steps_see : TS_root_steps_see) (n_1 : Int) (j_1 : Int) (c : Fl) (t : Fl) (i : Int) (k__1 : Bool) (s_4 : List Fl) (s_5 : Int) (s_6 : Int) (s_7 : List Fl) (o_3 : Fl) (o_4 : List Fl) (o_5 : List Fl) (t6_2 : Int) (t6_3 : Int) (l_2 : Int) (l_3 : Int) (w_1 : List Fl) (e0 : Bool) : (Unit) → ((Unit) → Bool) → Bool := fun v_ K => match v_ with
  | _ => (cond (decide (i < n_1)) ((fits .i64 (i * n_1)) && ((fits .i64 ((i * n_1) + j_1)) && ((inR ((i * n_1) + j_1) (List.length s_7)) && ((fits .i64 (i * n_1)) && ((fits .i64 ((i * n_1) + j_1)) && (S_root_steps_see (fmul c (List.getD s_7 (Int.toNat ((i * n_1) + j_1)) none)) k__1 (fun (cr_3 : Bool) => ((inR i (List.length w_1)) && ((decide ((Int.toNat i) < (List.length w_1))) && (S_root_steps_see (fmul t (List.getD w_1 (Int.toNat i) none)) cr_3 (fun (cr_4 : Bool) => (S_root_steps_see (fsub (fmul c (List.getD s_7 (Int.toNat ((i * n_1) + j_1)) none)) (fmul t (List.getD w_1 (Int.toNat i) none))) cr_4 (fun (cr_5 : Bool) => false))))))))))))) e0)

def st_root_carlson_0 (N_ : Nat) (S_matrix_Zero : TS_matrix_Zero) (S_math_Sqrt : TS_math_Sqrt) (S_root_steps_see : TS_root_steps_see) (n : Int) (s : List Fl) (s_1 : Int) (s_2 : Int) (s_3 : List Fl) (o : Fl) (o_1 : List Fl) (o_2 : List Fl) (t6 : Int) (t6_1 : Int) (l : Int) (l_1 : Int) (w : List Fl) (e0 : Bool → Bool) : (Int × Bool) → ((Int × Bool) → Bool) → Bool := fun v_ K => match v_ with
  | (j, k_) => (cond (decide (j ≥ 0)) ((inR j (List.length o_2)) && (S_math_Sqrt (List.getD o_2 (Int.toNat j) none) (fun (xr : Fl) => ((fits .i64 (j + 1)) && ((inR (j + 1) (List.length o_2)) && (S_math_Sqrt (List.getD o_2 (Int.toNat (j + 1)) none) (fun (xr_1 : Fl) => (S_root_steps_see (fdiv xr_1 xr) k_ (fun (cr : Bool) => ((inR j (List.length o_1)) && (S_root_steps_see (fmul xr xr_1) cr (fun (cr_1 : Bool) => (S_root_steps_see (fdiv (List.getD o_1 (Int.toNat j) none) (fmul xr xr_1)) cr_1 (fun (cr_2 : Bool) => (iterG N_ (st_root_carlson_2 N_ S_matrix_Zero S_math_Sqrt S_root_steps_see n j (fdiv xr_1 xr) (fdiv (List.getD o_1 (Int.toNat j) none) (fmul xr xr_1)) j cr_2 s s_1 s_2 s_3 o o_1 o_2 t6 t6_1 l l_1 w ((fits .i64 (j - 1)) && (K ((j - 1), cr_2)))) ()))))))))))))))) (e0 k_))

def st_root_carlson_2_1 (N_ : Nat) (S_matrix_Zero : TS_matrix_Zero) (S_math_Sqrt : TS_math_Sqrt) (S_root_steps_see : TS_root_steps_see) (n_3 : Int) (j_3 : Int) (c_1 : Fl) (t_1 : Fl) (s_12 : List Fl) (s_13 : Int) (s_14 : Int) (s_15 : List Fl) (o_9 : Fl) (o_10 : List Fl) (o_11 : List Fl) (t6_6 : Int) (t6_7 : Int) (l_6 : Int) (l_7 : Int) (e0 : Bool → List Fl → List Fl → Bool) : (Int × Bool × List Fl × List Fl) → ((Int × Bool × List Fl × List Fl) → Bool) → Bool := fun v_ K => match v_ with
  | (i_1, k__3, w_3, b6_1) => (cond (decide (i_1 < n_3)) ((fits .i64 (i_1 * n_3)) && ((fits .i64 ((i_1 * n_3) + j_3)) && ((inR ((i_1 * n_3) + j_3) (List.length s_15)) && ((fits .i64 (i_1 * n_3)) && ((fits .i64 ((i_1 * n_3) + j_3)) && (S_root_steps_see (fmul c_1 (List.getD s_15 (Int.toNat ((i_1 * n_3) + j_3)) none)) k__3 (fun (cr_9 : Bool) => ((inR i_1 (List.length w_3)) && ((decide ((Int.toNat i_1) < (List.length w_3))) && (S_root_steps_see (fmul t_1 (List.getD w_3 (Int.toNat i_1) none)) cr_9 (fun (cr_10 : Bool) => (S_root_steps_see (fsub (fmul c_1 (List.getD s_15 (Int.toNat ((i_1 * n_3) + j_3)) none)) (fmul t_1 (List.getD w_3 (Int.toNat i_1) none))) cr_10 (fun (cr_11 : Bool) => ((inR ((i_1 * n_3) + j_3) (List.length b6_1)) && ((decide ((Int.toNat ((i_1 * n_3) + j_3)) < (List.length b6_1))) && ((inR i_1 (List.length w_3)) && ((decide ((Int.toNat i_1) < (List.length w_3))) && ((inR j_3 (List.length o_10)) && (S_root_steps_see (fmul (List.getD o_10 (Int.toNat j_3) none) (List.getD s_15 (Int.toNat ((i_1 * n_3) + j_3)) none)) cr_11 (fun (cr_12 : Bool) => (S_root_steps_see (fadd (List.getD w_3 (Int.toNat i_1) none) (fmul (List.getD o_10 (Int.toNat j_3) none) (List.getD s_15 (Int.toNat ((i_1 * n_3) + j_3)) none))) cr_12 (fun (cr_13 : Bool) => ((inR i_1 (List.length w_3)) && ((decide ((Int.toNat i_1) < (List.length w_3))) && ((fits .i64 (i_1 + 1)) && (K ((i_1 + 1), cr_13, (List.set w_3 (Int.toNat i_1) (fadd (List.getD w_3 (Int.toNat i_1) none) (fmul (List.getD o_10 (Int.toNat j_3) none) (List.getD s_15 (Int.toNat ((i_1 * n_3) + j_3)) none)))), (List.set b6_1 (Int.toNat ((i_1 * n_3) + j_3)) (fsub (fmul c_1 (List.getD s_15 (Int.toNat ((i_1 * n_3) + j_3)) none)) (fmul t_1 (List.getD w_3 (Int.toNat i_1) none))))))))))))))))))))))))))))))) (e0 k__3 w_3 b6_1))

def st_root_carlson_0_1 (N_ : Nat) (S_matrix_Zero : TS_matrix_Zero) (S_math_Sqrt : TS_math_Sqrt) (S_root_steps_see : TS_root_steps_see) (n_2 : Int) (s_8 : List Fl) (s_9 : Int) (s_10 : Int) (s_11 : List Fl) (o_6 : Fl) (o_7 : List Fl) (o_8 : List Fl) (t6_4 : Int) (t6_5 : Int) (l_4 : Int) (l_5 : Int) (e0 : Bool → List Fl → List Fl → Bool) : (Int × Bool × List Fl × List Fl) → ((Int × Bool × List Fl × List Fl) → Bool) → Bool := fun v_ K => match v_ with
  | (j_2, k__2, w_2, b6) => (cond (decide (j_2 ≥ 0)) ((inR j_2 (List.length o_8)) && (S_math_Sqrt (List.getD o_8 (Int.toNat j_2) none) (fun (xr_2 : Fl) => ((fits .i64 (j_2 + 1)) && ((inR (j_2 + 1) (List.length o_8)) && (S_math_Sqrt (List.getD o_8 (Int.toNat (j_2 + 1)) none) (fun (xr_3 : Fl) => (S_root_steps_see (fdiv xr_3 xr_2) k__2 (fun (cr_6 : Bool) => ((inR j_2 (List.length o_7)) && (S_root_steps_see (fmul xr_2 xr_3) cr_6 (fun (cr_7 : Bool) => (S_root_steps_see (fdiv (List.getD o_7 (Int.toNat j_2) none) (fmul xr_2 xr_3)) cr_7 (fun (cr_8 : Bool) => (iterG N_ (st_root_carlson_2_1 N_ S_matrix_Zero S_math_Sqrt S_root_steps_see n_2 j_2 (fdiv xr_3 xr_2) (fdiv (List.getD o_7 (Int.toNat j_2) none) (fmul xr_2 xr_3)) s_8 s_9 s_10 s_11 o_6 o_7 o_8 t6_4 t6_5 l_4 l_5 (fun (k__4 : Bool) (w_4 : List Fl) (b6_2 : List Fl) => ((fits .i64 (j_2 - 1)) && (K ((j_2 - 1), k__4, w_4, b6_2))))) (j_2, cr_8, w_2, b6)))))))))))))))) (e0 k__2 w_2 b6))

def G_root_carlson (N_ : Nat) (S_matrix_Zero : TS_matrix_Zero) (S_math_Sqrt : TS_math_Sqrt) (S_root_steps_see : TS_root_steps_see) (s_0 : List Fl) (s_1 : Int) (s_2 : Int) (s_3 : List Fl) (o_0 : Fl) (o_1 : List Fl) (o_2 : List Fl) (b : Bool) (k0 : Int → Int → Bool → List Fl → Bool) (k1 : Int → Int → Bool → List Fl → List Fl → Bool) : Bool :=
  (S_matrix_Zero (((List.length s_0) : Nat) : Int) (((List.length s_0) : Nat) : Int) (fun (nr : Int) (nr_1 : Int) (nr_2 : Int) => ((mkOk 8 (((List.length s_0) : Nat) : Int) (((List.length s_0) : Nat) : Int)) && ((fits .i64 ((((List.length s_0) : Nat) : Int) - 1)) && (iterG N_ (st_root_carlson_0 N_ S_matrix_Zero S_math_Sqrt S_root_steps_see (((List.length s_0) : Nat) : Int) s_0 s_1 s_2 s_3 o_0 o_1 o_2 0 0 nr nr_1 (List.replicate (Int.toNat (((List.length s_0) : Nat) : Int)) (some 0)) (fun (b0 : Bool) => (k0 nr nr_1 b0 (List.replicate (Int.toNat (((List.length s_0) : Nat) : Int)) (some 0))))) (((((List.length s_0) : Nat) : Int) - 1), b))))) (fun (nr_3 : Int) (xsr : List Fl) => ((mkOk 8 (((List.length s_0) : Nat) : Int) (((List.length s_0) : Nat) : Int)) && ((fits .i64 ((((List.length s_0) : Nat) : Int) - 1)) && (iterG N_ (st_root_carlson_0_1 N_ S_matrix_Zero S_math_Sqrt S_root_steps_see (((List.length s_0) : Nat) : Int) s_0 s_1 s_2 s_3 o_0 o_1 o_2 0 0 (((List.length s_0) : Nat) : Int) (((List.length s_0) : Nat) : Int) (fun (b0_1 : Bool) (w_5 : List Fl) (b4 : List Fl) => (k1 (((List.length s_0) : Nat) : Int) (((List.length s_0) : Nat) : Int) b0_1 b4 w_5))) (((((List.length s_0) : Nat) : Int) - 1), b, (List.replicate (Int.toNat (((List.length s_0) : Nat) : Int)) (some 0)), xsr))))))

def s_root_carlson (N_ : Nat) : TS_root_carlson := G_root_carlson N_ (s_matrix_Zero N_) (s_math_Sqrt N_) (s_root_steps_see N_)

abbrev TS_root_Update : Type := List Fl → Int → Int → List Fl → List Fl → Fl → Fl → (Int → Int → Fl → Fl → Fl → Int → Bool) → (Int → Int → Fl → Fl → Fl → Int → List Fl → List Fl → Bool) → (Int → Int → Fl → Fl → Fl → Int → List Fl → List Fl → List Fl → Bool) → Bool

def st_root_Update_0 (N_ : Nat) (S_root_Check : TS_root_Check) (S_root_checkRow : TS_root_checkRow) (S_root_finite : TS_root_finite) (S_root_foresee : TS_root_foresee) (S_root_steps_see : TS_root_steps_see) (S_root_carlson : TS_root_carlson) (S_root_above : TS_root_above) (y_2 : Fl) (t93_2 : Int) (s_8 : List Fl) (s_9 : Int) (s_10 : Int) (s_11 : List Fl) (t8_4 : Int) (t8_5 : Int) (t9_6 : Fl) (t9_7 : Fl) (t9_8 : Fl) (o_2 : Fl) (l_4 : Int) (l_5 : Int) (w_2 : List Fl) (step_6 : Fl) (step_7 : Fl) (step_8 : Fl) (next_4 : Int) (next_5 : Int) (b9_2 : List Fl) (b10_2 : List Fl) (e0 : Bool → List Fl → List Fl → Bool) : (Int × Bool × List Fl × List Fl) → ((Int × Bool × List Fl × List Fl) → Bool) → Bool := fun v_ K => match v_ with
  | (t94_2, k__2, b11_1, b12) => (cond (decide (t94_2 < t93_2)) ((inR t94_2 (List.length w_2)) && ((decide ((Int.toNat t94_2) < (List.length w_2))) && ((inR 0 (List.length b10_2)) && ((decide (0 < (List.length b10_2))) && (S_root_steps_see (fdiv (List.getD w_2 (Int.toNat t94_2) none) (List.getD b10_2 0 none)) k__2 (fun (cr_12 : Bool) => ((decide ((List.length (b11_1 ++ [(fdiv (List.getD w_2 (Int.toNat t94_2) none) (List.getD b10_2 0 none))])) * 8 ≤ 140737488355328)) && ((inR t94_2 (List.length s_8)) && (S_root_steps_see (fmul (fdiv (List.getD w_2 (Int.toNat t94_2) none) (List.getD b10_2 0 none)) y_2) cr_12 (fun (cr_13 : Bool) => (S_root_steps_see (fadd (List.getD s_8 (Int.toNat t94_2) none) (fmul (fdiv (List.getD w_2 (Int.toNat t94_2) none) (List.getD b10_2 0 none)) y_2)) cr_13 (fun (cr_14 : Bool) => ((decide ((List.length (b12 ++ [(fadd (List.getD s_8 (Int.toNat t94_2) none) (fmul (fdiv (List.getD w_2 (Int.toNat t94_2) none) (List.getD b10_2 0 none)) y_2))])) * 8 ≤ 140737488355328)) && ((fits .i64 (t94_2 + 1)) && (K ((t94_2 + 1), cr_14, (b11_1 ++ [(fdiv (List.getD w_2 (Int.toNat t94_2) none) (List.getD b10_2 0 none))]), (b12 ++ [(fadd (List.getD s_8 (Int.toNat t94_2) none) (fmul (fdiv (List.getD w_2 (Int.toNat t94_2) none) (List.getD b10_2 0 none)) y_2))]))))))))))))))))) (e0 k__2 b11_1 b12))

def st_root_Update_0_1 (N_ : Nat) (S_root_Check : TS_root_Check) (S_root_checkRow : TS_root_checkRow) (S_root_finite : TS_root_finite) (S_root_foresee : TS_root_foresee) (S_root_steps_see : TS_root_steps_see) (S_root_carlson : TS_root_carlson) (S_root_above : TS_root_above) (y_3 : Fl) (t93_3 : Int) (s_12 : List Fl) (s_13 : Int) (s_14 : Int) (s_15 : List Fl) (t8_6 : Int) (t8_7 : Int) (t9_9 : Fl) (t9_10 : Fl) (t9_11 : Fl) (o_3 : Fl) (l_6 : Int) (l_7 : Int) (w_3 : List Fl) (step_9 : Fl) (step_10 : Fl) (step_11 : Fl) (next_6 : Int) (next_7 : Int) (b9_3 : List Fl) (b10_3 : List Fl) (b11_2 : List Fl) (e0 : Bool → List Fl → List Fl → Bool) : (Int × Bool × List Fl × List Fl) → ((Int × Bool × List Fl × List Fl) → Bool) → Bool := fun v_ K => match v_ with
  | (t94_3, k__4, b12_1, b13) => (cond (decide (t94_3 < t93_3)) ((inR t94_3 (List.length w_3)) && ((decide ((Int.toNat t94_3) < (List.length w_3))) && ((inR 0 (List.length b10_3)) && ((decide (0 < (List.length b10_3))) && (S_root_steps_see (fdiv (List.getD w_3 (Int.toNat t94_3) none) (List.getD b10_3 0 none)) k__4 (fun (cr_19 : Bool) => ((decide ((List.length (b12_1 ++ [(fdiv (List.getD w_3 (Int.toNat t94_3) none) (List.getD b10_3 0 none))])) * 8 ≤ 140737488355328)) && ((inR t94_3 (List.length s_12)) && (S_root_steps_see (fmul (fdiv (List.getD w_3 (Int.toNat t94_3) none) (List.getD b10_3 0 none)) y_3) cr_19 (fun (cr_20 : Bool) => (S_root_steps_see (fadd (List.getD s_12 (Int.toNat t94_3) none) (fmul (fdiv (List.getD w_3 (Int.toNat t94_3) none) (List.getD b10_3 0 none)) y_3)) cr_20 (fun (cr_21 : Bool) => ((decide ((List.length (b13 ++ [(fadd (List.getD s_12 (Int.toNat t94_3) none) (fmul (fdiv (List.getD w_3 (Int.toNat t94_3) none) (List.getD b10_3 0 none)) y_3))])) * 8 ≤ 140737488355328)) && ((fits .i64 (t94_3 + 1)) && (K ((t94_3 + 1), cr_21, (b12_1 ++ [(fdiv (List.getD w_3 (Int.toNat t94_3) none) (List.getD b10_3 0 none))]), (b13 ++ [(fadd (List.getD s_12 (Int.toNat t94_3) none) (fmul (fdiv (List.getD w_3 (Int.toNat t94_3) none) (List.getD b10_3 0 none)) y_3))]))))))))))))))))) (e0 k__4 b12_1 b13))

def G_root_Update (N_ : Nat) (S_root_Check : TS_root_Check) (S_root_checkRow : TS_root_checkRow) (S_root_finite : TS_root_finite) (S_root_foresee : TS_root_foresee) (S_root_steps_see : TS_root_steps_see) (S_root_carlson : TS_root_carlson) (S_root_above : TS_root_above) (s_0 : List Fl) (s_1 : Int) (s_2 : Int) (s_3 : List Fl) (h : List Fl) (r : Fl) (z : Fl) (k0 : Int → Int → Fl → Fl → Fl → Int → Bool) (k1 : Int → Int → Fl → Fl → Fl → Int → List Fl → List Fl → Bool) (k2 : Int → Int → Fl → Fl → Fl → Int → List Fl → List Fl → List Fl → Bool) : Bool :=
  (S_root_Check s_0 s_1 s_2 s_3 (fun (nr : Int) => (cond (nr != 0) (k0 0 0 (some 0) (some 0) (some 0) nr) (S_root_checkRow (((List.length s_0) : Nat) : Int) h r (fun (nr_1 : Int) => (cond (nr_1 != 0) (k0 0 0 (some 0) (some 0) (some 0) nr_1) (S_root_finite z (fun (cr : Bool) => (cond (!cr) (k0 0 0 (some 0) (some 0) (some 0) 4) (S_root_foresee s_0 s_1 s_2 s_3 h r false (fun (xr : Fl) (cr_1 : Bool) (xsr : List Fl) (xsr_1 : List Fl) => (cond cr_1 (k0 0 0 (some 0) (some 0) (some 0) 5) (S_root_steps_see (fsub z xr) cr_1 (fun (cr_2 : Bool) => (S_root_carlson s_0 s_1 s_2 s_3 xr xsr xsr_1 cr_2 (fun (nr_2 : Int) (nr_3 : Int) (cr_3 : Bool) (xsr_2 : List Fl) => ((inR 0 (List.length xsr_1)) && ((decide (0 < (List.length xsr_1))) && (S_root_steps_see (fmul (fsub z xr) (fsub z xr)) cr_3 (fun (cr_4 : Bool) => ((inR 0 (List.length xsr_1)) && ((decide (0 < (List.length xsr_1))) && (S_root_steps_see (fdiv (fmul (fsub z xr) (fsub z xr)) (List.getD xsr_1 0 none)) cr_4 (fun (cr_5 : Bool) => (iterG N_ (st_root_Update_0 N_ S_root_Check S_root_checkRow S_root_finite S_root_foresee S_root_steps_see S_root_carlson S_root_above (fsub z xr) (((List.length s_0) : Nat) : Int) s_0 s_1 s_2 s_3 0 0 (some 0) (some 0) (some 0) xr nr_2 nr_3 xsr_2 (fsub z xr) (List.getD xsr_1 0 none) (fdiv (fmul (fsub z xr) (fsub z xr)) (List.getD xsr_1 0 none)) nr_2 nr_3 xsr xsr_1 (fun (k__3 : Bool) (b6 : List Fl) (b7 : List Fl) => (cond k__3 (k0 0 0 (some 0) (some 0) (some 0) 5) (S_root_above nr_2 nr_3 [] (fun (cr_15 : Bool) => (cond (!cr_15) (k0 0 0 (some 0) (some 0) (some 0) 93) (k1 nr_2 nr_3 (fsub z xr) (List.getD xsr_1 0 none) (fdiv (fmul (fsub z xr) (fsub z xr)) (List.getD xsr_1 0 none)) 0 b7 b6))))))) (0, cr_5, [], []))))))))))) (fun (nr_4 : Int) (nr_5 : Int) (cr_16 : Bool) (xsr_3 : List Fl) (xsr_4 : List Fl) => ((inR 0 (List.length xsr_1)) && ((decide (0 < (List.length xsr_1))) && (S_root_steps_see (fmul (fsub z xr) (fsub z xr)) cr_16 (fun (cr_17 : Bool) => ((inR 0 (List.length xsr_1)) && ((decide (0 < (List.length xsr_1))) && (S_root_steps_see (fdiv (fmul (fsub z xr) (fsub z xr)) (List.getD xsr_1 0 none)) cr_17 (fun (cr_18 : Bool) => (iterG N_ (st_root_Update_0_1 N_ S_root_Check S_root_checkRow S_root_finite S_root_foresee S_root_steps_see S_root_carlson S_root_above (fsub z xr) (((List.length s_0) : Nat) : Int) s_0 s_1 s_2 s_3 0 0 (some 0) (some 0) (some 0) xr nr_4 nr_5 xsr_4 (fsub z xr) (List.getD xsr_1 0 none) (fdiv (fmul (fsub z xr) (fsub z xr)) (List.getD xsr_1 0 none)) nr_4 nr_5 xsr xsr_1 xsr_3 (fun (k__5 : Bool) (b7_1 : List Fl) (b8 : List Fl) => (cond k__5 (k0 0 0 (some 0) (some 0) (some 0) 5) (S_root_above nr_4 nr_5 xsr_3 (fun (cr_22 : Bool) => (cond (!cr_22) (k0 0 0 (some 0) (some 0) (some 0) 93) (k2 nr_4 nr_5 (fsub z xr) (List.getD xsr_1 0 none) (fdiv (fmul (fsub z xr) (fsub z xr)) (List.getD xsr_1 0 none)) 0 b8 xsr_3 b7_1))))))) (0, cr_18, [], []))))))))))))))))))))))))))

def s_root_Update (N_ : Nat) : TS_root_Update := G_root_Update N_ (s_root_Check N_) (s_root_checkRow N_) (s_root_finite N_) (s_root_foresee N_) (s_root_steps_see N_) (s_root_carlson N_) (s_root_above N_)

abbrev TS_chol_at : Type := Int → Int → List Fl → Int → Int → (Fl → Bool) → Bool

def G_chol_at (N_ : Nat) (m_0 : Int) (m_1 : Int) (m_2 : List Fl) (i : Int) (j : Int) (k0 : Fl → Bool) : Bool :=
  ((fits .i64 (i * m_1)) && ((fits .i64 ((i * m_1) + j)) && ((inR ((i * m_1) + j) (List.length m_2)) && (k0 (List.getD m_2 (Int.toNat ((i * m_1) + j)) none)))))

def s_chol_at (N_ : Nat) : TS_chol_at := G_chol_at N_

abbrev TS_chol_triangle : Type := Int → Int → List Fl → (Int → Bool) → Bool

def st_chol_triangle_0 (N_ : Nat) (S_matrix_Check : TS_matrix_Check) (S_chol_at : TS_chol_at) (S_matrix_Lower : TS_matrix_Lower) (t16 : Int) (l : Int) (l_1 : Int) (l_2 : List Fl) (e0 : Int → Bool) (e1 : Bool) : (Int) → ((Int) → Bool) → Bool := fun v_ K => match v_ with
  | t17 => (cond (decide (t17 < t16)) (S_chol_at l l_1 l_2 t17 t17 (fun (xr : Fl) => (cond (!(fgt xr (some 0))) (e0 93) ((fits .i64 (t17 + 1)) && (K (t17 + 1)))))) e1)

def G_chol_triangle (N_ : Nat) (S_matrix_Check : TS_matrix_Check) (S_chol_at : TS_chol_at) (S_matrix_Lower : TS_matrix_Lower) (l_0 : Int) (l_1 : Int) (l_2 : List Fl) (k0 : Int → Bool) : Bool :=
  (S_matrix_Check l_0 l_1 l_2 (fun (nr : Int) => (cond (nr != 0) (k0 nr) (cond (l_0 != l_1) (k0 3) (iterG N_ (st_chol_triangle_0 N_ S_matrix_Check S_chol_at S_matrix_Lower l_0 l_0 l_1 l_2 (fun (t2 : Int) => (k0 t2)) (S_matrix_Lower l_0 l_1 l_2 (fun (cr : Bool) => (cond (!cr) (k0 93) (k0 0))))) 0)))))

def s_chol_triangle (N_ : Nat) : TS_chol_triangle := G_chol_triangle N_ (s_matrix_Check N_) (s_chol_at N_) (s_matrix_Lower N_)

abbrev TS_chol_fits : Type := Int → List Fl → (Int → Bool) → Bool

def G_chol_fits (N_ : Nat) (S_anatomy_Finite : TS_anatomy_Finite) (rows : Int) (b : List Fl) (k0 : Int → Bool) : Bool :=
  (cond ((((List.length b) : Nat) : Int) != rows) (k0 3) (S_anatomy_Finite b (fun (cr : Bool) => (cond (!cr) (k0 4) (k0 0)))))

def s_chol_fits (N_ : Nat) : TS_chol_fits := G_chol_fits N_ (s_anatomy_Finite N_)

abbrev TS_chol_steps_of : Type := Fl → Bool → (Bool → Bool) → Bool

def G_chol_steps_of (N_ : Nat) (S_anatomy_Finite : TS_anatomy_Finite) (x : Fl) (b : Bool) (k0 : Bool → Bool) : Bool :=
  (S_anatomy_Finite [x] (fun (cr : Bool) => (cond (!cr) (k0 true) (k0 b))))

def s_chol_steps_of (N_ : Nat) : TS_chol_steps_of := G_chol_steps_of N_ (s_anatomy_Finite N_)

abbrev TS_chol_steps_times : Type := Fl → Fl → Bool → (Fl → Bool → Bool) → Bool

def G_chol_steps_times (N_ : Nat) (S_chol_steps_of : TS_chol_steps_of) (a : Fl) (b : Fl) (b_1 : Bool) (k0 : Fl → Bool → Bool) : Bool :=
  (S_chol_steps_of (fmul a b) b_1 (fun (cr : Bool) => (k0 (fmul a b) cr)))

def s_chol_steps_times (N_ : Nat) : TS_chol_steps_times := G_chol_steps_times N_ (s_chol_steps_of N_)

abbrev TS_chol_steps_less : Type := Fl → Fl → Bool → (Fl → Bool → Bool) → Bool

def G_chol_steps_less (N_ : Nat) (S_chol_steps_of : TS_chol_steps_of) (t : Fl) (p : Fl) (b : Bool) (k0 : Fl → Bool → Bool) : Bool :=
  (S_chol_steps_of (fsub t p) b (fun (cr : Bool) => (k0 (fsub t p) cr)))

def s_chol_steps_less (N_ : Nat) : TS_chol_steps_less := G_chol_steps_less N_ (s_chol_steps_of N_)

abbrev TS_chol_steps_down : Type := Int → Int → List Fl → List Fl → Bool → (Bool → List Fl → Bool) → Bool

def st_chol_steps_down_2 (N_ : Nat) (S_chol_at : TS_chol_at) (S_chol_steps_times : TS_chol_steps_times) (S_chol_steps_less : TS_chol_steps_less) (S_chol_steps_of : TS_chol_steps_of) (b_3 : List Fl) (i : Int) (t15_1 : Int) (t16_1 : Int) (t23 : Int) (l_3 : Int) (l_4 : Int) (l_5 : List Fl) (x_1 : List Fl) (e0 : Fl → Bool → Bool) : (Fl × Int × Bool) → ((Fl × Int × Bool) → Bool) → Bool := fun v_ K => match v_ with
  | (t, t24, s_1) => (cond (decide (t24 < t23)) (S_chol_at l_3 l_4 l_5 i t24 (fun (xr : Fl) => ((inR t24 (List.length x_1)) && ((decide ((Int.toNat t24) < (List.length x_1))) && (S_chol_steps_times xr (List.getD x_1 (Int.toNat t24) none) s_1 (fun (xr_1 : Fl) (cr : Bool) => (S_chol_steps_less t xr_1 cr (fun (xr_2 : Fl) (cr_1 : Bool) => ((fits .i64 (t24 + 1)) && (K (xr_2, (t24 + 1), cr_1))))))))))) (e0 t s_1))

def st_chol_steps_down_0 (N_ : Nat) (S_chol_at : TS_chol_at) (S_chol_steps_times : TS_chol_steps_times) (S_chol_steps_less : TS_chol_steps_less) (S_chol_steps_of : TS_chol_steps_of) (b_2 : List Fl) (t15 : Int) (l : Int) (l_1 : Int) (l_2 : List Fl) (e0 : Bool → List Fl → Bool) : (Int × Bool × List Fl) → ((Int × Bool × List Fl) → Bool) → Bool := fun v_ K => match v_ with
  | (t16, s, x) => (cond (decide (t16 < t15)) ((inR t16 (List.length b_2)) && (iterG N_ (st_chol_steps_down_2 N_ S_chol_at S_chol_steps_times S_chol_steps_less S_chol_steps_of b_2 t16 t15 t16 t16 l l_1 l_2 x (fun (t_1 : Fl) (s_2 : Bool) => (S_chol_at l l_1 l_2 t16 t16 (fun (xr_3 : Fl) => (S_chol_steps_of (fdiv t_1 xr_3) s_2 (fun (cr_2 : Bool) => ((inR t16 (List.length x)) && ((decide ((Int.toNat t16) < (List.length x))) && ((fits .i64 (t16 + 1)) && (K ((t16 + 1), cr_2, (List.set x (Int.toNat t16) (fdiv t_1 xr_3))))))))))))) ((List.getD b_2 (Int.toNat t16) none), 0, s))) (e0 s x))

def G_chol_steps_down (N_ : Nat) (S_chol_at : TS_chol_at) (S_chol_steps_times : TS_chol_steps_times) (S_chol_steps_less : TS_chol_steps_less) (S_chol_steps_of : TS_chol_steps_of) (l_0 : Int) (l_1 : Int) (l_2 : List Fl) (b : List Fl) (b_1 : Bool) (k0 : Bool → List Fl → Bool) : Bool :=
  ((mkOk 8 (((List.length b) : Nat) : Int) (((List.length b) : Nat) : Int)) && (iterG N_ (st_chol_steps_down_0 N_ S_chol_at S_chol_steps_times S_chol_steps_less S_chol_steps_of b (((List.length b) : Nat) : Int) l_0 l_1 l_2 (fun (b0 : Bool) (x_2 : List Fl) => (k0 b0 x_2))) (0, b_1, (List.replicate (Int.toNat (((List.length b) : Nat) : Int)) (some 0)))))

def s_chol_steps_down (N_ : Nat) : TS_chol_steps_down := G_chol_steps_down N_ (s_chol_at N_) (s_chol_steps_times N_) (s_chol_steps_less N_) (s_chol_steps_of N_)

abbrev TS_chol_by : Type := Int → Int → List Fl → List Fl → (Int → Bool) → (Int → List Fl → Bool) → Bool

def G_chol_by (N_ : Nat) (S_chol_triangle : TS_chol_triangle) (S_chol_fits : TS_chol_fits) (S_chol_steps_down : TS_chol_steps_down) (l_0 : Int) (l_1 : Int) (l_2 : List Fl) (b : List Fl) (k0 : Int → Bool) (k1 : Int → List Fl → Bool) : Bool :=
  (S_chol_triangle l_0 l_1 l_2 (fun (nr : Int) => (cond (nr != 0) (k0 nr) (S_chol_fits l_0 b (fun (nr_1 : Int) => (cond (nr_1 != 0) (k0 nr_1) (S_chol_steps_down l_0 l_1 l_2 b false (fun (cr : Bool) (xsr : List Fl) => (cond cr (k0 5) (k1 0 xsr))))))))))

def s_chol_by (N_ : Nat) : TS_chol_by := G_chol_by N_ (s_chol_triangle N_) (s_chol_fits N_) (s_chol_steps_down N_)

abbrev TS_chol_Lower : Type := Int → Int → List Fl → List Fl → (Int → Bool) → (Int → List Fl → Bool) → Bool

def G_chol_Lower (N_ : Nat) (S_chol_by : TS_chol_by) (l_0 : Int) (l_1 : Int) (l_2 : List Fl) (b : List Fl) (k0 : Int → Bool) (k1 : Int → List Fl → Bool) : Bool :=
  (S_chol_by l_0 l_1 l_2 b (fun (nr : Int) => (k0 nr)) (fun (nr_1 : Int) (xsr : List Fl) => (k1 nr_1 xsr)))

def s_chol_Lower (N_ : Nat) : TS_chol_Lower := G_chol_Lower N_ (s_chol_by N_)

abbrev TS_root_Distance : Type := List Fl → Int → Int → List Fl → List Fl → (Fl → Int → Bool) → Bool

def st_root_Distance_1 (N_ : Nat) (S_root_Check : TS_root_Check) (S_anatomy_Finite : TS_anatomy_Finite) (S_root_steps_see : TS_root_steps_see) (S_chol_Lower : TS_chol_Lower) (S_root_steps_dot : TS_root_steps_dot) (x_2 : List Fl) (t32_1 : Int) (s_4 : List Fl) (s_5 : Int) (s_6 : Int) (s_7 : List Fl) (e0 : Bool → List Fl → Bool) : (Int × Bool × List Fl) → ((Int × Bool × List Fl) → Bool) → Bool := fun v_ K => match v_ with
  | (t33_1, k__1, d) => (cond (decide (t33_1 < t32_1)) ((inR t33_1 (List.length x_2)) && ((inR t33_1 (List.length s_4)) && (S_root_steps_see (fsub (List.getD x_2 (Int.toNat t33_1) none) (List.getD s_4 (Int.toNat t33_1) none)) k__1 (fun (cr_2 : Bool) => ((decide ((List.length (d ++ [(fsub (List.getD x_2 (Int.toNat t33_1) none) (List.getD s_4 (Int.toNat t33_1) none))])) * 8 ≤ 140737488355328)) && ((fits .i64 (t33_1 + 1)) && (K ((t33_1 + 1), cr_2, (d ++ [(fsub (List.getD x_2 (Int.toNat t33_1) none) (List.getD s_4 (Int.toNat t33_1) none))]))))))))) (e0 k__1 d))

def G_root_Distance (N_ : Nat) (S_root_Check : TS_root_Check) (S_anatomy_Finite : TS_anatomy_Finite) (S_root_steps_see : TS_root_steps_see) (S_chol_Lower : TS_chol_Lower) (S_root_steps_dot : TS_root_steps_dot) (s_0 : List Fl) (s_1 : Int) (s_2 : Int) (s_3 : List Fl) (x : List Fl) (k0 : Fl → Int → Bool) : Bool :=
  (S_root_Check s_0 s_1 s_2 s_3 (fun (nr : Int) => (cond (nr != 0) (k0 (some 0) nr) (cond ((((List.length x) : Nat) : Int) != (((List.length s_0) : Nat) : Int)) (k0 (some 0) 3) (S_anatomy_Finite x (fun (cr : Bool) => (cond (!cr) (k0 (some 0) 4) (iterG N_ (st_root_Distance_1 N_ S_root_Check S_anatomy_Finite S_root_steps_see S_chol_Lower S_root_steps_dot x (((List.length x) : Nat) : Int) s_0 s_1 s_2 s_3 (fun (k__2 : Bool) (d_1 : List Fl) => (cond k__2 (k0 (some 0) 5) (S_chol_Lower s_1 s_2 s_3 d_1 (fun (nr_1 : Int) => (cond (nr_1 != 0) (k0 (some 0) nr_1) (S_root_steps_dot [] [] k__2 (fun (xr : Fl) (cr_3 : Bool) => (cond cr_3 (k0 (some 0) 5) (k0 xr 0)))))) (fun (nr_2 : Int) (xsr : List Fl) => (cond (nr_2 != 0) (k0 (some 0) nr_2) (S_root_steps_dot xsr xsr k__2 (fun (xr_1 : Fl) (cr_4 : Bool) => (cond cr_4 (k0 (some 0) 5) (k0 xr_1 0)))))))))) (0, false, [])))))))))

def s_root_Distance (N_ : Nat) : TS_root_Distance := G_root_Distance N_ (s_root_Check N_) (s_anatomy_Finite N_) (s_root_steps_see N_) (s_chol_Lower N_) (s_root_steps_dot N_)

abbrev TS_binnaclelaw16_awake : Type := (Bool → Bool) → Bool

def G_binnaclelaw16_awake (N_ : Nat) (S_root_Update : TS_root_Update) (S_root_Distance : TS_root_Distance) (S_root_Check : TS_root_Check) (k0 : Bool → Bool) : Bool :=
  (S_root_Update [(some 0)] 1 1 [(some 4611686018427387904)] [(some 4607182418800017408)] (some 4607182418800017408) (some 4617315517961601024) (fun (nr : Int) (nr_1 : Int) (xr : Fl) (xr_1 : Fl) (xr_2 : Fl) (nr_2 : Int) => (S_root_Distance [(some 0)] 1 1 [(some 4611686018427387904)] [(some 4616189618054758400)] (fun (xr_3 : Fl) (nr_3 : Int) => (cond ((nr_2 == 0) == true) (k0 false) (k0 false))))) (fun (nr_4 : Int) (nr_5 : Int) (xr_4 : Fl) (xr_5 : Fl) (xr_6 : Fl) (nr_6 : Int) (xsr : List Fl) (xsr_1 : List Fl) => (S_root_Distance [(some 0)] 1 1 [(some 4611686018427387904)] [(some 4616189618054758400)] (fun (xr_7 : Fl) (nr_7 : Int) => (cond ((nr_6 == 0) == true) (cond (((((List.length xsr) : Nat) : Int) == 1) == true) ((inR 0 (List.length xsr)) && ((decide (0 < (List.length xsr))) && (cond ((feq (List.getD xsr 0 none) (some 4616189618054758400)) == true) (cond ((feq xr_5 (some 4617315517961601024)) == true) (cond ((feq xr_4 (some 4617315517961601024)) == true) (cond ((nr_7 == 0) == true) (cond ((feq xr_7 (some 4616189618054758400)) == true) (S_root_Check [(some 0)] 1 1 [(some 4611686018427387904)] (fun (nr_8 : Int) => (k0 (nr_8 == 0)))) (k0 false)) (k0 false)) (k0 false)) (k0 false)) (k0 false)))) (k0 false)) (k0 false))))) (fun (nr_9 : Int) (nr_10 : Int) (xr_8 : Fl) (xr_9 : Fl) (xr_10 : Fl) (nr_11 : Int) (xsr_2 : List Fl) (xsr_3 : List Fl) (xsr_4 : List Fl) => (S_root_Distance [(some 0)] 1 1 [(some 4611686018427387904)] [(some 4616189618054758400)] (fun (xr_11 : Fl) (nr_12 : Int) => (cond ((nr_11 == 0) == true) (cond (((((List.length xsr_2) : Nat) : Int) == 1) == true) ((inR 0 (List.length xsr_2)) && ((decide (0 < (List.length xsr_2))) && (cond ((feq (List.getD xsr_2 0 none) (some 4616189618054758400)) == true) (cond ((feq xr_9 (some 4617315517961601024)) == true) (cond ((feq xr_8 (some 4617315517961601024)) == true) (cond ((nr_12 == 0) == true) (cond ((feq xr_11 (some 4616189618054758400)) == true) (S_root_Check [(some 0)] 1 1 [(some 4611686018427387904)] (fun (nr_13 : Int) => (k0 (nr_13 == 0)))) (k0 false)) (k0 false)) (k0 false)) (k0 false)) (k0 false)))) (k0 false)) (k0 false))))))

def s_binnaclelaw16_awake (N_ : Nat) : TS_binnaclelaw16_awake := G_binnaclelaw16_awake N_ (s_root_Update N_) (s_root_Distance N_) (s_root_Check N_)

abbrev TS_binnacleref08_If : Type := Bool → Int → (Int → Bool) → Bool

def G_binnacleref08_If (N_ : Nat) (is : Bool) (e : Int) (k0 : Int → Bool) : Bool :=
  (cond is (k0 e) (k0 0))

def s_binnacleref08_If (N_ : Nat) : TS_binnacleref08_If := G_binnacleref08_If N_

abbrev TS_binnacleref08_Raw : Type := Int → Int → (List Fl → Bool) → Bool

def G_binnacleref08_Raw (N_ : Nat) (rows : Int) (cols : Int) (k0 : List Fl → Bool) : Bool :=
  ((fits .i64 (rows * cols)) && ((mkOk 8 (rows * cols) (rows * cols)) && (k0 (List.replicate (Int.toNat (rows * cols)) (some 0)))))

def s_binnacleref08_Raw (N_ : Nat) : TS_binnacleref08_Raw := G_binnacleref08_Raw N_

abbrev TS_binnacleref08_Put : Type := Int → Int → Int → Int → Fl → List Fl → (List Fl → Bool) → Bool

def G_binnacleref08_Put (N_ : Nat) (m_0 : Int) (m_1 : Int) (i : Int) (j : Int) (x : Fl) (b : List Fl) (k0 : List Fl → Bool) : Bool :=
  ((fits .i64 (i * m_1)) && ((fits .i64 ((i * m_1) + j)) && ((inR ((i * m_1) + j) (List.length b)) && ((decide ((Int.toNat ((i * m_1) + j)) < (List.length b))) && (k0 (List.set b (Int.toNat ((i * m_1) + j)) x))))))

def s_binnacleref08_Put (N_ : Nat) : TS_binnacleref08_Put := G_binnacleref08_Put N_

abbrev TS_binnacleref08_At_2 : Type := Int → Int → Int → Int → List Fl → (Fl → Bool) → Bool

def G_binnacleref08_At_2 (N_ : Nat) (m_0 : Int) (m_1 : Int) (i : Int) (j : Int) (b : List Fl) (k0 : Fl → Bool) : Bool :=
  ((fits .i64 (i * m_1)) && ((fits .i64 ((i * m_1) + j)) && ((inR ((i * m_1) + j) (List.length b)) && ((decide ((Int.toNat ((i * m_1) + j)) < (List.length b))) && (k0 (List.getD b (Int.toNat ((i * m_1) + j)) none))))))

def s_binnacleref08_At_2 (N_ : Nat) : TS_binnacleref08_At_2 := G_binnacleref08_At_2 N_

abbrev TS_binnacleref16_ended : Type := Int → Int → List Fl → List Fl → (Int → Int → Int → Bool) → (Int → Bool) → Bool

def st_binnacleref16_ended_0 (N_ : Nat) (S_binnacleref08_At_2 : TS_binnacleref08_At_2) (x : List Fl) (b1 : List Fl) (l : Int) (l_1 : Int) (t4 : Int) (t4_1 : Int) (e0 : Int → Int → Int → Bool) (e1 : Bool) : (Int) → ((Int) → Bool) → Bool := fun v_ K => match v_ with
  | i => (cond (decide (i < l)) (S_binnacleref08_At_2 l l_1 i i b1 (fun (xr : Fl) => (cond (!(fgt xr (some 0))) (e0 93 0 0) ((fits .i64 (i + 1)) && (K (i + 1)))))) e1)

def G_binnacleref16_ended (N_ : Nat) (S_binnacleref08_At_2 : TS_binnacleref08_At_2) (l_0 : Int) (l_1 : Int) (b : List Fl) (b_1 : List Fl) (k0 : Int → Int → Int → Bool) (k1 : Int → Bool) : Bool :=
  (iterG N_ (st_binnacleref16_ended_0 N_ S_binnacleref08_At_2 b b_1 l_0 l_1 0 0 (fun (t5 : Int) (t4_2 : Int) (t4_3 : Int) => (k0 t4_2 t4_3 t5)) (k1 0)) 0)

def s_binnacleref16_ended (N_ : Nat) : TS_binnacleref16_ended := G_binnacleref16_ended N_ (s_binnacleref08_At_2 N_)

abbrev TS_binnacleref16_Update : Type := List Fl → Int → Int → List Fl → List Fl → Fl → Fl → (Int → Int → Fl → Fl → Fl → Int → Bool) → (Int → Int → Fl → Fl → Fl → Int → List Fl → Bool) → (Int → Int → Fl → Fl → Fl → Int → List Fl → List Fl → List Fl → Bool) → Bool

def st_binnacleref16_Update_2 (N_ : Nat) (S_binnacleref16_Check : TS_binnacleref16_Check) (S_binnacleref15_Row : TS_binnacleref15_Row) (S_binnacleref01_Finite : TS_binnacleref01_Finite) (S_binnacleref08_If : TS_binnacleref08_If) (S_binnacleref08_First : TS_binnacleref08_First) (S_binnacleref16_seen : TS_binnacleref16_seen) (S_binnacleref09_Steps_S : TS_binnacleref09_Steps_S) (S_binnacleref08_Raw : TS_binnacleref08_Raw) (S_math_Sqrt : TS_math_Sqrt) (S_binnacleref08_At : TS_binnacleref08_At) (S_binnacleref08_Put : TS_binnacleref08_Put) (S_binnacleref16_ended : TS_binnacleref16_ended) (n_1 : Int) (y_1 : Fl) (j_1 : Int) (c : Fl) (t : Fl) (s_4 : List Fl) (s_5 : Int) (s_6 : Int) (s_7 : List Fl) (t8_2 : Int) (t8_3 : Int) (t9_3 : Fl) (t9_4 : Fl) (t9_5 : Fl) (v_1 : List Fl) (a_1 : List Fl) (l_2 : Int) (l_3 : Int) (e0 : Bool → List Fl → List Fl → Bool) : (Int × Bool × List Fl × List Fl) → ((Int × Bool × List Fl × List Fl) → Bool) → Bool := fun v_ K => match v_ with
  | (i, steps_1, w_1, b8_1) => (cond (decide (i < n_1)) (S_binnacleref08_At s_5 s_6 s_7 i j_1 (fun (xr_3 : Fl) => (S_binnacleref09_Steps_S (fmul c xr_3) steps_1 (fun (cr_6 : Bool) => ((inR i (List.length w_1)) && ((decide ((Int.toNat i) < (List.length w_1))) && (S_binnacleref09_Steps_S (fmul t (List.getD w_1 (Int.toNat i) none)) cr_6 (fun (cr_7 : Bool) => (S_binnacleref09_Steps_S (fsub (fmul c xr_3) (fmul t (List.getD w_1 (Int.toNat i) none))) cr_7 (fun (cr_8 : Bool) => (S_binnacleref08_Put l_2 l_3 i j_1 (fsub (fmul c xr_3) (fmul t (List.getD w_1 (Int.toNat i) none))) b8_1 (fun (xsr_3 : List Fl) => ((inR i (List.length w_1)) && ((decide ((Int.toNat i) < (List.length w_1))) && ((inR j_1 (List.length v_1)) && ((decide ((Int.toNat j_1) < (List.length v_1))) && (S_binnacleref09_Steps_S (fmul (List.getD v_1 (Int.toNat j_1) none) xr_3) cr_8 (fun (cr_9 : Bool) => (S_binnacleref09_Steps_S (fadd (List.getD w_1 (Int.toNat i) none) (fmul (List.getD v_1 (Int.toNat j_1) none) xr_3)) cr_9 (fun (cr_10 : Bool) => ((inR i (List.length w_1)) && ((decide ((Int.toNat i) < (List.length w_1))) && ((fits .i64 (i + 1)) && (K ((i + 1), cr_10, (List.set w_1 (Int.toNat i) (fadd (List.getD w_1 (Int.toNat i) none) (fmul (List.getD v_1 (Int.toNat j_1) none) xr_3))), xsr_3))))))))))))))))))))))))) (e0 steps_1 w_1 b8_1))

def st_binnacleref16_Update_0 (N_ : Nat) (S_binnacleref16_Check : TS_binnacleref16_Check) (S_binnacleref15_Row : TS_binnacleref15_Row) (S_binnacleref01_Finite : TS_binnacleref01_Finite) (S_binnacleref08_If : TS_binnacleref08_If) (S_binnacleref08_First : TS_binnacleref08_First) (S_binnacleref16_seen : TS_binnacleref16_seen) (S_binnacleref09_Steps_S : TS_binnacleref09_Steps_S) (S_binnacleref08_Raw : TS_binnacleref08_Raw) (S_math_Sqrt : TS_math_Sqrt) (S_binnacleref08_At : TS_binnacleref08_At) (S_binnacleref08_Put : TS_binnacleref08_Put) (S_binnacleref16_ended : TS_binnacleref16_ended) (n : Int) (y : Fl) (s : List Fl) (s_1 : Int) (s_2 : Int) (s_3 : List Fl) (t8 : Int) (t8_1 : Int) (t9 : Fl) (t9_1 : Fl) (t9_2 : Fl) (v : List Fl) (a : List Fl) (l : Int) (l_1 : Int) (e0 : Bool → List Fl → List Fl → Bool) : (Int × Bool × List Fl × List Fl) → ((Int × Bool × List Fl × List Fl) → Bool) → Bool := fun v_ K => match v_ with
  | (j, steps, w, b8) => (cond (decide (j ≥ 0)) ((inR j (List.length a)) && ((decide ((Int.toNat j) < (List.length a))) && (S_math_Sqrt (List.getD a (Int.toNat j) none) (fun (xr_1 : Fl) => ((fits .i64 (j + 1)) && ((inR (j + 1) (List.length a)) && ((decide ((Int.toNat (j + 1)) < (List.length a))) && (S_math_Sqrt (List.getD a (Int.toNat (j + 1)) none) (fun (xr_2 : Fl) => (S_binnacleref09_Steps_S (fdiv xr_2 xr_1) steps (fun (cr_3 : Bool) => ((inR j (List.length v)) && ((decide ((Int.toNat j) < (List.length v))) && (S_binnacleref09_Steps_S (fmul xr_1 xr_2) cr_3 (fun (cr_4 : Bool) => (S_binnacleref09_Steps_S (fdiv (List.getD v (Int.toNat j) none) (fmul xr_1 xr_2)) cr_4 (fun (cr_5 : Bool) => (iterG N_ (st_binnacleref16_Update_2 N_ S_binnacleref16_Check S_binnacleref15_Row S_binnacleref01_Finite S_binnacleref08_If S_binnacleref08_First S_binnacleref16_seen S_binnacleref09_Steps_S S_binnacleref08_Raw S_math_Sqrt S_binnacleref08_At S_binnacleref08_Put S_binnacleref16_ended n y j (fdiv xr_2 xr_1) (fdiv (List.getD v (Int.toNat j) none) (fmul xr_1 xr_2)) s s_1 s_2 s_3 t8 t8_1 t9 t9_1 t9_2 v a l l_1 (fun (steps_2 : Bool) (w_2 : List Fl) (b8_2 : List Fl) => ((fits .i64 (j - 1)) && (K ((j - 1), steps_2, w_2, b8_2))))) (j, cr_5, w, b8))))))))))))))))))) (e0 steps w b8))

def st_binnacleref16_Update_4 (N_ : Nat) (S_binnacleref16_Check : TS_binnacleref16_Check) (S_binnacleref15_Row : TS_binnacleref15_Row) (S_binnacleref01_Finite : TS_binnacleref01_Finite) (S_binnacleref08_If : TS_binnacleref08_If) (S_binnacleref08_First : TS_binnacleref08_First) (S_binnacleref16_seen : TS_binnacleref16_seen) (S_binnacleref09_Steps_S : TS_binnacleref09_Steps_S) (S_binnacleref08_Raw : TS_binnacleref08_Raw) (S_math_Sqrt : TS_math_Sqrt) (S_binnacleref08_At : TS_binnacleref08_At) (S_binnacleref08_Put : TS_binnacleref08_Put) (S_binnacleref16_ended : TS_binnacleref16_ended) (n_4 : Int) (y_4 : Fl) (s_16 : List Fl) (s_17 : Int) (s_18 : Int) (s_19 : List Fl) (t8_8 : Int) (t8_9 : Int) (t9_12 : Fl) (t9_13 : Fl) (t9_14 : Fl) (a_4 : List Fl) (w_6 : List Fl) (l_8 : Int) (l_9 : Int) (b9 : List Fl) (e0 : Bool → List Fl → List Fl → Bool) : (Int × Bool × List Fl × List Fl) → ((Int × Bool × List Fl × List Fl) → Bool) → Bool := fun v_ K => match v_ with
  | (i_3, steps_6, k__1, x) => (cond (decide (i_3 < n_4)) ((inR i_3 (List.length w_6)) && ((decide ((Int.toNat i_3) < (List.length w_6))) && ((inR 0 (List.length a_4)) && ((decide (0 < (List.length a_4))) && (S_binnacleref09_Steps_S (fdiv (List.getD w_6 (Int.toNat i_3) none) (List.getD a_4 0 none)) steps_6 (fun (cr_17 : Bool) => ((decide ((List.length (k__1 ++ [(fdiv (List.getD w_6 (Int.toNat i_3) none) (List.getD a_4 0 none))])) * 8 ≤ 140737488355328)) && ((inR i_3 (List.length s_16)) && ((inR i_3 (List.length (k__1 ++ [(fdiv (List.getD w_6 (Int.toNat i_3) none) (List.getD a_4 0 none))]))) && ((decide ((Int.toNat i_3) < (List.length (k__1 ++ [(fdiv (List.getD w_6 (Int.toNat i_3) none) (List.getD a_4 0 none))])))) && (S_binnacleref09_Steps_S (fmul (List.getD (k__1 ++ [(fdiv (List.getD w_6 (Int.toNat i_3) none) (List.getD a_4 0 none))]) (Int.toNat i_3) none) y_4) cr_17 (fun (cr_18 : Bool) => (S_binnacleref09_Steps_S (fadd (List.getD s_16 (Int.toNat i_3) none) (fmul (List.getD (k__1 ++ [(fdiv (List.getD w_6 (Int.toNat i_3) none) (List.getD a_4 0 none))]) (Int.toNat i_3) none) y_4)) cr_18 (fun (cr_19 : Bool) => ((decide ((List.length (x ++ [(fadd (List.getD s_16 (Int.toNat i_3) none) (fmul (List.getD (k__1 ++ [(fdiv (List.getD w_6 (Int.toNat i_3) none) (List.getD a_4 0 none))]) (Int.toNat i_3) none) y_4))])) * 8 ≤ 140737488355328)) && ((fits .i64 (i_3 + 1)) && (K ((i_3 + 1), cr_19, (k__1 ++ [(fdiv (List.getD w_6 (Int.toNat i_3) none) (List.getD a_4 0 none))]), (x ++ [(fadd (List.getD s_16 (Int.toNat i_3) none) (fmul (List.getD (k__1 ++ [(fdiv (List.getD w_6 (Int.toNat i_3) none) (List.getD a_4 0 none))]) (Int.toNat i_3) none) y_4))]))))))))))))))))))) (e0 steps_6 k__1 x))

def G_binnacleref16_Update (N_ : Nat) (S_binnacleref16_Check : TS_binnacleref16_Check) (S_binnacleref15_Row : TS_binnacleref15_Row) (S_binnacleref01_Finite : TS_binnacleref01_Finite) (S_binnacleref08_If : TS_binnacleref08_If) (S_binnacleref08_First : TS_binnacleref08_First) (S_binnacleref16_seen : TS_binnacleref16_seen) (S_binnacleref09_Steps_S : TS_binnacleref09_Steps_S) (S_binnacleref08_Raw : TS_binnacleref08_Raw) (S_math_Sqrt : TS_math_Sqrt) (S_binnacleref08_At : TS_binnacleref08_At) (S_binnacleref08_Put : TS_binnacleref08_Put) (S_binnacleref16_ended : TS_binnacleref16_ended) (s_0 : List Fl) (s_1 : Int) (s_2 : Int) (s_3 : List Fl) (h : List Fl) (r : Fl) (z : Fl) (k0 : Int → Int → Fl → Fl → Fl → Int → Bool) (k1 : Int → Int → Fl → Fl → Fl → Int → List Fl → Bool) (k2 : Int → Int → Fl → Fl → Fl → Int → List Fl → List Fl → List Fl → Bool) : Bool :=
  (S_binnacleref16_Check s_0 s_1 s_2 s_3 (fun (nr : Int) => (S_binnacleref15_Row (((List.length s_0) : Nat) : Int) h r (fun (nr_1 : Int) => (S_binnacleref01_Finite z (fun (cr : Bool) => (S_binnacleref08_If (!cr) 4 (fun (nr_2 : Int) => (S_binnacleref08_First [nr, nr_1, nr_2] (fun (nr_3 : Int) => (cond (nr_3 != 0) (k0 0 0 (some 0) (some 0) (some 0) nr_3) (S_binnacleref16_seen s_0 s_1 s_2 s_3 h r false (fun (xr : Fl) (cr_1 : Bool) (xsr : List Fl) (xsr_1 : List Fl) => (S_binnacleref09_Steps_S (fsub z xr) cr_1 (fun (cr_2 : Bool) => ((mkOk 8 (((List.length h) : Nat) : Int) (((List.length h) : Nat) : Int)) && (S_binnacleref08_Raw (((List.length h) : Nat) : Int) (((List.length h) : Nat) : Int) (fun (xsr_2 : List Fl) => ((fits .i64 ((((List.length h) : Nat) : Int) - 1)) && (iterG N_ (st_binnacleref16_Update_0 N_ S_binnacleref16_Check S_binnacleref15_Row S_binnacleref01_Finite S_binnacleref08_If S_binnacleref08_First S_binnacleref16_seen S_binnacleref09_Steps_S S_binnacleref08_Raw S_math_Sqrt S_binnacleref08_At S_binnacleref08_Put S_binnacleref16_ended (((List.length h) : Nat) : Int) (fsub z xr) s_0 s_1 s_2 s_3 0 0 (some 0) (some 0) (some 0) xsr xsr_1 (((List.length h) : Nat) : Int) (((List.length h) : Nat) : Int) (fun (steps_3 : Bool) (w_3 : List Fl) (b7 : List Fl) => (iterG N_ (st_binnacleref16_Update_4 N_ S_binnacleref16_Check S_binnacleref15_Row S_binnacleref01_Finite S_binnacleref08_If S_binnacleref08_First S_binnacleref16_seen S_binnacleref09_Steps_S S_binnacleref08_Raw S_math_Sqrt S_binnacleref08_At S_binnacleref08_Put S_binnacleref16_ended (((List.length h) : Nat) : Int) (fsub z xr) s_0 s_1 s_2 s_3 0 0 (some 0) (some 0) (some 0) xsr_1 w_3 (((List.length h) : Nat) : Int) (((List.length h) : Nat) : Int) b7 (fun (steps_7 : Bool) (k__2 : List Fl) (x_1 : List Fl) => (S_binnacleref09_Steps_S (fmul (fsub z xr) (fsub z xr)) steps_7 (fun (cr_20 : Bool) => ((inR 0 (List.length xsr_1)) && ((decide (0 < (List.length xsr_1))) && (S_binnacleref09_Steps_S (fdiv (fmul (fsub z xr) (fsub z xr)) (List.getD xsr_1 0 none)) cr_20 (fun (cr_21 : Bool) => (cond cr_21 (k0 0 0 (some 0) (some 0) (some 0) 5) (S_binnacleref16_ended (((List.length h) : Nat) : Int) (((List.length h) : Nat) : Int) x_1 b7 (fun (nr_4 : Int) (nr_5 : Int) (nr_6 : Int) => (cond (nr_6 != 0) (k0 0 0 (some 0) (some 0) (some 0) nr_6) ((inR 0 (List.length xsr_1)) && ((decide (0 < (List.length xsr_1))) && (k1 nr_4 nr_5 (fsub z xr) (List.getD xsr_1 0 none) (fdiv (fmul (fsub z xr) (fsub z xr)) (List.getD xsr_1 0 none)) 0 k__2))))) (fun (nr_7 : Int) => (cond (nr_7 != 0) (k0 0 0 (some 0) (some 0) (some 0) nr_7) ((inR 0 (List.length xsr_1)) && ((decide (0 < (List.length xsr_1))) && (k2 (((List.length h) : Nat) : Int) (((List.length h) : Nat) : Int) (fsub z xr) (List.getD xsr_1 0 none) (fdiv (fmul (fsub z xr) (fsub z xr)) (List.getD xsr_1 0 none)) 0 x_1 b7 k__2))))))))))))))) (0, steps_3, [], [])))) (((((List.length h) : Nat) : Int) - 1), cr_2, (List.replicate (Int.toNat (((List.length h) : Nat) : Int)) (some 0)), xsr_2)))))))))))))))))))))

def s_binnacleref16_Update (N_ : Nat) : TS_binnacleref16_Update := G_binnacleref16_Update N_ (s_binnacleref16_Check N_) (s_binnacleref15_Row N_) (s_binnacleref01_Finite N_) (s_binnacleref08_If N_) (s_binnacleref08_First N_) (s_binnacleref16_seen N_) (s_binnacleref09_Steps_S N_) (s_binnacleref08_Raw N_) (s_math_Sqrt N_) (s_binnacleref08_At N_) (s_binnacleref08_Put N_) (s_binnacleref16_ended N_)

abbrev TS_binnacleref01_SameList : Type := List Fl → List Fl → (Bool → Bool) → Bool

def st_binnacleref01_SameList_0 (N_ : Nat) (S_binnacleref01_Same : TS_binnacleref01_Same) (a_1 : List Fl) (b_1 : List Fl) (t12 : Int) (e0 : Bool → Bool) (e1 : Bool) : (Int) → ((Int) → Bool) → Bool := fun v_ K => match v_ with
  | t13 => (cond (decide (t13 < t12)) ((inR t13 (List.length a_1)) && ((inR t13 (List.length b_1)) && (S_binnacleref01_Same (List.getD a_1 (Int.toNat t13) none) (List.getD b_1 (Int.toNat t13) none) (fun (cr : Bool) => (cond (!cr) (e0 false) ((fits .i64 (t13 + 1)) && (K (t13 + 1)))))))) e1)

def G_binnacleref01_SameList (N_ : Nat) (S_binnacleref01_Same : TS_binnacleref01_Same) (a : List Fl) (b : List Fl) (k0 : Bool → Bool) : Bool :=
  (cond ((((List.length a) : Nat) : Int) != (((List.length b) : Nat) : Int)) (k0 false) (iterG N_ (st_binnacleref01_SameList_0 N_ S_binnacleref01_Same a b (((List.length a) : Nat) : Int) (fun (t4 : Bool) => (k0 t4)) (k0 true)) 0))

def s_binnacleref01_SameList (N_ : Nat) : TS_binnacleref01_SameList := G_binnacleref01_SameList N_ (s_binnacleref01_Same N_)

abbrev TS_binnacleref15_list : Type := List Fl → List Fl → (Bool → Bool) → Bool

def G_binnacleref15_list (N_ : Nat) (S_binnacleref01_SameList : TS_binnacleref01_SameList) (a : List Fl) (b : List Fl) (k0 : Bool → Bool) : Bool :=
  (S_binnacleref01_SameList a b (fun (cr : Bool) => (k0 cr)))

def s_binnacleref15_list (N_ : Nat) : TS_binnacleref15_list := G_binnacleref15_list N_ (s_binnacleref01_SameList N_)

abbrev TS_binnacleref15_SameMat : Type := Int → Int → List Fl → Int → Int → List Fl → (Bool → Bool) → Bool

def G_binnacleref15_SameMat (N_ : Nat) (S_binnacleref15_list : TS_binnacleref15_list) (a_0 : Int) (a_1 : Int) (a_2 : List Fl) (b_0 : Int) (b_1 : Int) (b_2 : List Fl) (k0 : Bool → Bool) : Bool :=
  (cond ((a_0 == b_0) == true) (cond ((a_1 == b_1) == true) (S_binnacleref15_list a_2 b_2 (fun (cr : Bool) => (k0 cr))) (k0 false)) (k0 false))

def s_binnacleref15_SameMat (N_ : Nat) : TS_binnacleref15_SameMat := G_binnacleref15_SameMat N_ (s_binnacleref15_list N_)

abbrev TS_binnacleref16_Same : Type := List Fl → Int → Int → List Fl → List Fl → Int → Int → List Fl → (Bool → Bool) → Bool

def G_binnacleref16_Same (N_ : Nat) (S_binnacleref01_SameList : TS_binnacleref01_SameList) (S_binnacleref15_SameMat : TS_binnacleref15_SameMat) (a_0 : List Fl) (a_1 : Int) (a_2 : Int) (a_3 : List Fl) (b_0 : List Fl) (b_1 : Int) (b_2 : Int) (b_3 : List Fl) (k0 : Bool → Bool) : Bool :=
  (S_binnacleref01_SameList a_0 b_0 (fun (cr : Bool) => (cond (cr == true) (S_binnacleref15_SameMat a_1 a_2 a_3 b_1 b_2 b_3 (fun (cr_1 : Bool) => (k0 cr_1))) (k0 false))))

def s_binnacleref16_Same (N_ : Nat) : TS_binnacleref16_Same := G_binnacleref16_Same N_ (s_binnacleref01_SameList N_) (s_binnacleref15_SameMat N_)

abbrev TS_binnaclelaw16_told : Type := List Fl → Int → Int → List Fl → Int → List Fl → Int → Int → List Fl → Int → (Bool → Bool) → Bool

def G_binnaclelaw16_told (N_ : Nat) (S_binnacleref16_Same : TS_binnacleref16_Same) (a_0 : List Fl) (a_1 : Int) (a_2 : Int) (a_3 : List Fl) (e : Int) (b_0 : List Fl) (b_1 : Int) (b_2 : Int) (b_3 : List Fl) (n : Int) (k0 : Bool → Bool) : Bool :=
  (cond ((e == n) == true) (S_binnacleref16_Same a_0 a_1 a_2 a_3 b_0 b_1 b_2 b_3 (fun (cr : Bool) => (k0 cr))) (k0 false))

def s_binnaclelaw16_told (N_ : Nat) : TS_binnaclelaw16_told := G_binnaclelaw16_told N_ (s_binnacleref16_Same N_)

abbrev TS_binnacleref15_SameStep : Type := Fl → Fl → Fl → List Fl → Fl → Fl → Fl → List Fl → (Bool → Bool) → Bool

def G_binnacleref15_SameStep (N_ : Nat) (S_binnacleref15_list : TS_binnacleref15_list) (a_0 : Fl) (a_1 : Fl) (a_2 : Fl) (a_3 : List Fl) (b_0 : Fl) (b_1 : Fl) (b_2 : Fl) (b_3 : List Fl) (k0 : Bool → Bool) : Bool :=
  (S_binnacleref15_list [a_0, a_1, a_2] [b_0, b_1, b_2] (fun (cr : Bool) => (cond (cr == true) (S_binnacleref15_list a_3 b_3 (fun (cr_1 : Bool) => (k0 cr_1))) (k0 false))))

def s_binnacleref15_SameStep (N_ : Nat) : TS_binnacleref15_SameStep := G_binnacleref15_SameStep N_ (s_binnacleref15_list N_)

abbrev TS_binnaclelaw16_RootUpdates : Type := List Int → Int → Int → List Int → List Int → Int → Int → (Bool → Bool) → Bool

def G_binnaclelaw16_RootUpdates (N_ : Nat) (S_binnaclelaw16_of : TS_binnaclelaw16_of) (S_binnaclelaw16_l : TS_binnaclelaw16_l) (S_binnaclelaw16_f : TS_binnaclelaw16_f) (S_root_Foresee : TS_root_Foresee) (S_binnacleref16_Foresee : TS_binnacleref16_Foresee) (S_binnaclelaw16_same : TS_binnaclelaw16_same) (S_binnaclelaw16_awake : TS_binnaclelaw16_awake) (S_root_Update : TS_root_Update) (S_binnacleref16_Update : TS_binnacleref16_Update) (S_binnaclelaw16_told : TS_binnaclelaw16_told) (S_binnacleref15_SameStep : TS_binnacleref15_SameStep) (x : List Int) (m_0 : Int) (m_1 : Int) (m_2 : List Int) (w_0 : List Int) (w_1 : Int) (w_2 : Int) (k0 : Bool → Bool) : Bool :=
  (S_binnaclelaw16_of x m_0 m_1 m_2 (fun (xsr : List Fl) (xsr_1 : List Fl) => (S_binnaclelaw16_l w_0 (fun (xsr_2 : List Fl) => (S_binnaclelaw16_f w_1 (fun (xr : Fl) => (S_root_Foresee xsr m_0 m_1 xsr_1 xsr_2 xr (fun (xr_1 : Fl) (xr_2 : Fl) (nr : Int) => (S_binnaclelaw16_of x m_0 m_1 m_2 (fun (xsr_3 : List Fl) (xsr_4 : List Fl) => (S_binnaclelaw16_l w_0 (fun (xsr_5 : List Fl) => (S_binnaclelaw16_f w_1 (fun (xr_3 : Fl) => (S_binnacleref16_Foresee xsr_3 m_0 m_1 xsr_4 xsr_5 xr_3 (fun (xr_4 : Fl) (xr_5 : Fl) (nr_1 : Int) => (S_binnaclelaw16_same xr_1 xr_4 (fun (cr : Bool) => (cond ((!cr) == false) (S_binnaclelaw16_same xr_2 xr_5 (fun (cr_1 : Bool) => (cond ((!cr_1) == false) (cond ((nr != nr_1) == false) (S_binnaclelaw16_awake (fun (cr_2 : Bool) => (cond (!cr_2) (k0 false) (S_binnaclelaw16_of x m_0 m_1 m_2 (fun (xsr_6 : List Fl) (xsr_7 : List Fl) => (S_binnaclelaw16_l w_0 (fun (xsr_8 : List Fl) => (S_binnaclelaw16_f w_1 (fun (xr_6 : Fl) => (S_binnaclelaw16_f w_2 (fun (xr_7 : Fl) => (S_root_Update xsr_6 m_0 m_1 xsr_7 xsr_8 xr_6 xr_7 (fun (nr_2 : Int) (nr_3 : Int) (xr_8 : Fl) (xr_9 : Fl) (xr_10 : Fl) (nr_4 : Int) => (S_binnaclelaw16_of x m_0 m_1 m_2 (fun (xsr_9 : List Fl) (xsr_10 : List Fl) => (S_binnaclelaw16_l w_0 (fun (xsr_11 : List Fl) => (S_binnaclelaw16_f w_1 (fun (xr_11 : Fl) => (S_binnaclelaw16_f w_2 (fun (xr_12 : Fl) => (S_binnacleref16_Update xsr_9 m_0 m_1 xsr_10 xsr_11 xr_11 xr_12 (fun (nr_5 : Int) (nr_6 : Int) (xr_13 : Fl) (xr_14 : Fl) (xr_15 : Fl) (nr_7 : Int) => (S_binnaclelaw16_told [] nr_2 nr_3 [] nr_4 [] nr_5 nr_6 [] nr_7 (fun (cr_3 : Bool) => (cond (cr_3 == true) (S_binnacleref15_SameStep xr_8 xr_9 xr_10 [] xr_13 xr_14 xr_15 [] (fun (cr_4 : Bool) => (k0 cr_4))) (k0 false))))) (fun (nr_8 : Int) (nr_9 : Int) (xr_16 : Fl) (xr_17 : Fl) (xr_18 : Fl) (nr_10 : Int) (xsr_12 : List Fl) => (S_binnaclelaw16_told [] nr_2 nr_3 [] nr_4 [] nr_8 nr_9 [] nr_10 (fun (cr_5 : Bool) => (cond (cr_5 == true) (S_binnacleref15_SameStep xr_8 xr_9 xr_10 [] xr_16 xr_17 xr_18 xsr_12 (fun (cr_6 : Bool) => (k0 cr_6))) (k0 false))))) (fun (nr_11 : Int) (nr_12 : Int) (xr_19 : Fl) (xr_20 : Fl) (xr_21 : Fl) (nr_13 : Int) (xsr_13 : List Fl) (xsr_14 : List Fl) (xsr_15 : List Fl) => (S_binnaclelaw16_told [] nr_2 nr_3 [] nr_4 xsr_13 nr_11 nr_12 xsr_14 nr_13 (fun (cr_7 : Bool) => (cond (cr_7 == true) (S_binnacleref15_SameStep xr_8 xr_9 xr_10 [] xr_19 xr_20 xr_21 xsr_15 (fun (cr_8 : Bool) => (k0 cr_8))) (k0 false))))))))))))))) (fun (nr_14 : Int) (nr_15 : Int) (xr_22 : Fl) (xr_23 : Fl) (xr_24 : Fl) (nr_16 : Int) (xsr_16 : List Fl) (xsr_17 : List Fl) => (S_binnaclelaw16_of x m_0 m_1 m_2 (fun (xsr_18 : List Fl) (xsr_19 : List Fl) => (S_binnaclelaw16_l w_0 (fun (xsr_20 : List Fl) => (S_binnaclelaw16_f w_1 (fun (xr_25 : Fl) => (S_binnaclelaw16_f w_2 (fun (xr_26 : Fl) => (S_binnacleref16_Update xsr_18 m_0 m_1 xsr_19 xsr_20 xr_25 xr_26 (fun (nr_17 : Int) (nr_18 : Int) (xr_27 : Fl) (xr_28 : Fl) (xr_29 : Fl) (nr_19 : Int) => (S_binnaclelaw16_told xsr_16 nr_14 nr_15 [] nr_16 [] nr_17 nr_18 [] nr_19 (fun (cr_9 : Bool) => (cond (cr_9 == true) (S_binnacleref15_SameStep xr_22 xr_23 xr_24 xsr_17 xr_27 xr_28 xr_29 [] (fun (cr_10 : Bool) => (k0 cr_10))) (k0 false))))) (fun (nr_20 : Int) (nr_21 : Int) (xr_30 : Fl) (xr_31 : Fl) (xr_32 : Fl) (nr_22 : Int) (xsr_21 : List Fl) => (S_binnaclelaw16_told xsr_16 nr_14 nr_15 [] nr_16 [] nr_20 nr_21 [] nr_22 (fun (cr_11 : Bool) => (cond (cr_11 == true) (S_binnacleref15_SameStep xr_22 xr_23 xr_24 xsr_17 xr_30 xr_31 xr_32 xsr_21 (fun (cr_12 : Bool) => (k0 cr_12))) (k0 false))))) (fun (nr_23 : Int) (nr_24 : Int) (xr_33 : Fl) (xr_34 : Fl) (xr_35 : Fl) (nr_25 : Int) (xsr_22 : List Fl) (xsr_23 : List Fl) (xsr_24 : List Fl) => (S_binnaclelaw16_told xsr_16 nr_14 nr_15 [] nr_16 xsr_22 nr_23 nr_24 xsr_23 nr_25 (fun (cr_13 : Bool) => (cond (cr_13 == true) (S_binnacleref15_SameStep xr_22 xr_23 xr_24 xsr_17 xr_33 xr_34 xr_35 xsr_24 (fun (cr_14 : Bool) => (k0 cr_14))) (k0 false))))))))))))))) (fun (nr_26 : Int) (nr_27 : Int) (xr_36 : Fl) (xr_37 : Fl) (xr_38 : Fl) (nr_28 : Int) (xsr_25 : List Fl) (xsr_26 : List Fl) (xsr_27 : List Fl) => (S_binnaclelaw16_of x m_0 m_1 m_2 (fun (xsr_28 : List Fl) (xsr_29 : List Fl) => (S_binnaclelaw16_l w_0 (fun (xsr_30 : List Fl) => (S_binnaclelaw16_f w_1 (fun (xr_39 : Fl) => (S_binnaclelaw16_f w_2 (fun (xr_40 : Fl) => (S_binnacleref16_Update xsr_28 m_0 m_1 xsr_29 xsr_30 xr_39 xr_40 (fun (nr_29 : Int) (nr_30 : Int) (xr_41 : Fl) (xr_42 : Fl) (xr_43 : Fl) (nr_31 : Int) => (S_binnaclelaw16_told xsr_25 nr_26 nr_27 xsr_26 nr_28 [] nr_29 nr_30 [] nr_31 (fun (cr_15 : Bool) => (cond (cr_15 == true) (S_binnacleref15_SameStep xr_36 xr_37 xr_38 xsr_27 xr_41 xr_42 xr_43 [] (fun (cr_16 : Bool) => (k0 cr_16))) (k0 false))))) (fun (nr_32 : Int) (nr_33 : Int) (xr_44 : Fl) (xr_45 : Fl) (xr_46 : Fl) (nr_34 : Int) (xsr_31 : List Fl) => (S_binnaclelaw16_told xsr_25 nr_26 nr_27 xsr_26 nr_28 [] nr_32 nr_33 [] nr_34 (fun (cr_17 : Bool) => (cond (cr_17 == true) (S_binnacleref15_SameStep xr_36 xr_37 xr_38 xsr_27 xr_44 xr_45 xr_46 xsr_31 (fun (cr_18 : Bool) => (k0 cr_18))) (k0 false))))) (fun (nr_35 : Int) (nr_36 : Int) (xr_47 : Fl) (xr_48 : Fl) (xr_49 : Fl) (nr_37 : Int) (xsr_32 : List Fl) (xsr_33 : List Fl) (xsr_34 : List Fl) => (S_binnaclelaw16_told xsr_25 nr_26 nr_27 xsr_26 nr_28 xsr_32 nr_35 nr_36 xsr_33 nr_37 (fun (cr_19 : Bool) => (cond (cr_19 == true) (S_binnacleref15_SameStep xr_36 xr_37 xr_38 xsr_27 xr_47 xr_48 xr_49 xsr_34 (fun (cr_20 : Bool) => (k0 cr_20))) (k0 false))))))))))))))))))))))))))) (k0 false)) (k0 false)))) (k0 false))))))))))))))))))))

def s_binnaclelaw16_RootUpdates (N_ : Nat) : TS_binnaclelaw16_RootUpdates := G_binnaclelaw16_RootUpdates N_ (s_binnaclelaw16_of N_) (s_binnaclelaw16_l N_) (s_binnaclelaw16_f N_) (s_root_Foresee N_) (s_binnacleref16_Foresee N_) (s_binnaclelaw16_same N_) (s_binnaclelaw16_awake N_) (s_root_Update N_) (s_binnacleref16_Update N_) (s_binnaclelaw16_told N_) (s_binnacleref15_SameStep N_)

abbrev TS_math_Abs_2 : Type := Fl → (Fl → Bool) → Bool

def s_math_Abs_2 (N_ : Nat) : TS_math_Abs_2 := fun x k => k (absF x)

abbrev TS_math_IsInf : Type := Fl → Int → (Bool → Bool) → Bool

def G_math_IsInf (N_ : Nat) (S_math_Abs_2 : TS_math_Abs_2) (f : Fl) (sign : Int) (k0 : Bool → Bool) : Bool :=
  (cond (sign == 0) (S_math_Abs_2 f (fun (xr : Fl) => (k0 (fgt xr (some 9218868437227405311))))) (cond (decide (sign < 0)) (k0 (fgt (fneg f) (some 9218868437227405311))) (k0 (fgt f (some 9218868437227405311)))))

def s_math_IsInf (N_ : Nat) : TS_math_IsInf := G_math_IsInf N_ (s_math_Abs_2 N_)

abbrev TS_binnaclelaw16_RootBlind : Type := List Int → Int → Int → List Int → Int → Int → (Bool → Bool) → Bool

def st_binnaclelaw16_RootBlind_0 (N_ : Nat) (S_binnaclelaw16_awake : TS_binnaclelaw16_awake) (S_binnaclelaw16_of : TS_binnaclelaw16_of) (S_root_Check : TS_root_Check) (S_binnaclelaw16_f : TS_binnaclelaw16_f) (S_math_IsInf : TS_math_IsInf) (S_binnacleref01_Finite : TS_binnacleref01_Finite) (S_root_Update : TS_root_Update) (S_binnaclelaw16_same : TS_binnaclelaw16_same) (r_1 : Int) (i : Int) (s : Int) (s_1 : Int) (t : Int) (t_1 : Int) (p : Fl) (p_1 : Fl) (p_2 : Fl) (b3 : List Fl) (b4 : List Fl) (e0 : Bool → Bool) (e1 : Bool) : (Unit) → ((Unit) → Bool) → Bool := fun v_ K => match v_ with
  | _ => (cond (decide (i < (((List.length b3) : Nat) : Int))) (cond ((0 != (((List.length b3) : Nat) : Int)) == false) false (e0 false)) e1)

def st_binnaclelaw16_RootBlind_2 (N_ : Nat) (S_binnaclelaw16_awake : TS_binnaclelaw16_awake) (S_binnaclelaw16_of : TS_binnaclelaw16_of) (S_root_Check : TS_root_Check) (S_binnaclelaw16_f : TS_binnaclelaw16_f) (S_math_IsInf : TS_math_IsInf) (S_binnacleref01_Finite : TS_binnacleref01_Finite) (S_root_Update : TS_root_Update) (S_binnaclelaw16_same : TS_binnaclelaw16_same) (r_2 : Int) (i_1 : Int) (s_2 : Int) (s_3 : Int) (t_2 : Int) (t_3 : Int) (p_3 : Fl) (p_4 : Fl) (p_5 : Fl) (b3_1 : List Fl) (b4_1 : List Fl) (e0 : Bool → Bool) (e1 : Bool) : (Unit) → ((Unit) → Bool) → Bool := fun v_ K => match v_ with
  | _ => (cond (decide (i_1 < (((List.length b4_1) : Nat) : Int))) (cond ((0 != (((List.length b4_1) : Nat) : Int)) == false) false (e0 false)) e1)

def st_binnaclelaw16_RootBlind_0_1 (N_ : Nat) (S_binnaclelaw16_awake : TS_binnaclelaw16_awake) (S_binnaclelaw16_of : TS_binnaclelaw16_of) (S_root_Check : TS_root_Check) (S_binnaclelaw16_f : TS_binnaclelaw16_f) (S_math_IsInf : TS_math_IsInf) (S_binnacleref01_Finite : TS_binnacleref01_Finite) (S_root_Update : TS_root_Update) (S_binnaclelaw16_same : TS_binnaclelaw16_same) (r_3 : Int) (s_4 : Int) (s_5 : Int) (t_4 : Int) (t_5 : Int) (p_6 : Fl) (p_7 : Fl) (p_8 : Fl) (b3_2 : List Fl) (b4_2 : List Fl) (b5 : List Fl) (b6 : List Fl) (e0 : Bool → Bool) (e1 : Bool) : (Int) → ((Int) → Bool) → Bool := fun v_ K => match v_ with
  | i_2 => (cond (decide (i_2 < (((List.length b3_2) : Nat) : Int))) (cond (((((List.length b5) : Nat) : Int) != (((List.length b3_2) : Nat) : Int)) == false) ((inR i_2 (List.length b5)) && ((decide ((Int.toNat i_2) < (List.length b5))) && ((inR i_2 (List.length b3_2)) && ((decide ((Int.toNat i_2) < (List.length b3_2))) && (cond (!feq (List.getD b5 (Int.toNat i_2) none) (List.getD b3_2 (Int.toNat i_2) none)) (e0 false) ((fits .i64 (i_2 + 1)) && (K (i_2 + 1)))))))) (e0 false)) e1)

def st_binnaclelaw16_RootBlind_2_1 (N_ : Nat) (S_binnaclelaw16_awake : TS_binnaclelaw16_awake) (S_binnaclelaw16_of : TS_binnaclelaw16_of) (S_root_Check : TS_root_Check) (S_binnaclelaw16_f : TS_binnaclelaw16_f) (S_math_IsInf : TS_math_IsInf) (S_binnacleref01_Finite : TS_binnacleref01_Finite) (S_root_Update : TS_root_Update) (S_binnaclelaw16_same : TS_binnaclelaw16_same) (r_4 : Int) (i_3 : Int) (s_6 : Int) (s_7 : Int) (t_6 : Int) (t_7 : Int) (p_9 : Fl) (p_10 : Fl) (p_11 : Fl) (b3_3 : List Fl) (b4_3 : List Fl) (b5_1 : List Fl) (b6_1 : List Fl) (e0 : Bool → Bool) (e1 : Bool) : (Unit) → ((Unit) → Bool) → Bool := fun v_ K => match v_ with
  | _ => (cond (decide (i_3 < (((List.length b4_3) : Nat) : Int))) (cond ((0 != (((List.length b4_3) : Nat) : Int)) == false) false (e0 false)) e1)

def st_binnaclelaw16_RootBlind_0_2 (N_ : Nat) (S_binnaclelaw16_awake : TS_binnaclelaw16_awake) (S_binnaclelaw16_of : TS_binnaclelaw16_of) (S_root_Check : TS_root_Check) (S_binnaclelaw16_f : TS_binnaclelaw16_f) (S_math_IsInf : TS_math_IsInf) (S_binnacleref01_Finite : TS_binnacleref01_Finite) (S_root_Update : TS_root_Update) (S_binnaclelaw16_same : TS_binnaclelaw16_same) (r_5 : Int) (s_8 : Int) (s_9 : Int) (t_8 : Int) (t_9 : Int) (p_12 : Fl) (p_13 : Fl) (p_14 : Fl) (b3_4 : List Fl) (b4_4 : List Fl) (b5_2 : List Fl) (b6_2 : List Fl) (b7 : List Fl) (e0 : Bool → Bool) (e1 : Bool) : (Int) → ((Int) → Bool) → Bool := fun v_ K => match v_ with
  | i_4 => (cond (decide (i_4 < (((List.length b3_4) : Nat) : Int))) (cond (((((List.length b5_2) : Nat) : Int) != (((List.length b3_4) : Nat) : Int)) == false) ((inR i_4 (List.length b5_2)) && ((decide ((Int.toNat i_4) < (List.length b5_2))) && ((inR i_4 (List.length b3_4)) && ((decide ((Int.toNat i_4) < (List.length b3_4))) && (cond (!feq (List.getD b5_2 (Int.toNat i_4) none) (List.getD b3_4 (Int.toNat i_4) none)) (e0 false) ((fits .i64 (i_4 + 1)) && (K (i_4 + 1)))))))) (e0 false)) e1)

def st_binnaclelaw16_RootBlind_2_2 (N_ : Nat) (S_binnaclelaw16_awake : TS_binnaclelaw16_awake) (S_binnaclelaw16_of : TS_binnaclelaw16_of) (S_root_Check : TS_root_Check) (S_binnaclelaw16_f : TS_binnaclelaw16_f) (S_math_IsInf : TS_math_IsInf) (S_binnacleref01_Finite : TS_binnacleref01_Finite) (S_root_Update : TS_root_Update) (S_binnaclelaw16_same : TS_binnaclelaw16_same) (r_6 : Int) (s_10 : Int) (s_11 : Int) (t_10 : Int) (t_11 : Int) (p_15 : Fl) (p_16 : Fl) (p_17 : Fl) (b3_5 : List Fl) (b4_5 : List Fl) (b5_3 : List Fl) (b6_3 : List Fl) (b7_1 : List Fl) (e0 : Bool → Bool) (e1 : Bool) : (Int) → ((Int) → Bool) → Bool := fun v_ K => match v_ with
  | i_5 => (cond (decide (i_5 < (((List.length b4_5) : Nat) : Int))) (cond (((((List.length b6_3) : Nat) : Int) != (((List.length b4_5) : Nat) : Int)) == false) ((inR i_5 (List.length b6_3)) && ((decide ((Int.toNat i_5) < (List.length b6_3))) && ((inR i_5 (List.length b4_5)) && ((decide ((Int.toNat i_5) < (List.length b4_5))) && (cond (!feq (List.getD b6_3 (Int.toNat i_5) none) (List.getD b4_5 (Int.toNat i_5) none)) (e0 false) ((fits .i64 (i_5 + 1)) && (K (i_5 + 1)))))))) (e0 false)) e1)

def G_binnaclelaw16_RootBlind (N_ : Nat) (S_binnaclelaw16_awake : TS_binnaclelaw16_awake) (S_binnaclelaw16_of : TS_binnaclelaw16_of) (S_root_Check : TS_root_Check) (S_binnaclelaw16_f : TS_binnaclelaw16_f) (S_math_IsInf : TS_math_IsInf) (S_binnacleref01_Finite : TS_binnacleref01_Finite) (S_root_Update : TS_root_Update) (S_binnaclelaw16_same : TS_binnaclelaw16_same) (x : List Int) (m_0 : Int) (m_1 : Int) (m_2 : List Int) (r : Int) (z : Int) (k0 : Bool → Bool) : Bool :=
  (S_binnaclelaw16_awake (fun (cr : Bool) => (cond (!cr) (k0 false) (S_binnaclelaw16_of x m_0 m_1 m_2 (fun (xsr : List Fl) (xsr_1 : List Fl) => (S_root_Check xsr m_0 m_1 xsr_1 (fun (nr : Int) => (cond ((nr != 0) == false) (S_binnaclelaw16_f r (fun (xr : Fl) => (cond ((!(fgt xr (some 0))) == false) (S_binnaclelaw16_f r (fun (xr_1 : Fl) => (S_math_IsInf xr_1 0 (fun (cr_1 : Bool) => (cond (cr_1 == false) (S_binnaclelaw16_f z (fun (xr_2 : Fl) => (S_binnacleref01_Finite xr_2 (fun (cr_2 : Bool) => (cond (!cr_2) (k0 true) ((mkOk 8 (((List.length xsr) : Nat) : Int) (((List.length xsr) : Nat) : Int)) && (S_binnaclelaw16_f r (fun (xr_3 : Fl) => (S_binnaclelaw16_f z (fun (xr_4 : Fl) => (S_root_Update xsr m_0 m_1 xsr_1 (List.replicate (Int.toNat (((List.length xsr) : Nat) : Int)) (some 0)) xr_3 xr_4 (fun (nr_1 : Int) (nr_2 : Int) (xr_5 : Fl) (xr_6 : Fl) (xr_7 : Fl) (nr_3 : Int) => (cond (nr_3 != 0) (cond ((nr_3 == 5) == true) (k0 true) (k0 false)) (iterG N_ (st_binnaclelaw16_RootBlind_0 N_ S_binnaclelaw16_awake S_binnaclelaw16_of S_root_Check S_binnaclelaw16_f S_math_IsInf S_binnacleref01_Finite S_root_Update S_binnaclelaw16_same r 0 m_0 m_1 nr_1 nr_2 xr_5 xr_6 xr_7 xsr xsr_1 (fun (t8 : Bool) => (k0 t8)) (iterG N_ (st_binnaclelaw16_RootBlind_2 N_ S_binnaclelaw16_awake S_binnaclelaw16_of S_root_Check S_binnaclelaw16_f S_math_IsInf S_binnacleref01_Finite S_root_Update S_binnaclelaw16_same r 0 m_0 m_1 nr_1 nr_2 xr_5 xr_6 xr_7 xsr xsr_1 (fun (t8_1 : Bool) => (k0 t8_1)) (S_binnaclelaw16_f r (fun (xr_8 : Fl) => (S_binnaclelaw16_same xr_6 xr_8 (fun (cr_3 : Bool) => (k0 cr_3)))))) ())) ()))) (fun (nr_4 : Int) (nr_5 : Int) (xr_9 : Fl) (xr_10 : Fl) (xr_11 : Fl) (nr_6 : Int) (xsr_2 : List Fl) (xsr_3 : List Fl) => (cond (nr_6 != 0) (cond ((nr_6 == 5) == true) (k0 ((((List.length xsr_2) : Nat) : Int) == 0)) (k0 false)) (iterG N_ (st_binnaclelaw16_RootBlind_0_1 N_ S_binnaclelaw16_awake S_binnaclelaw16_of S_root_Check S_binnaclelaw16_f S_math_IsInf S_binnacleref01_Finite S_root_Update S_binnaclelaw16_same r m_0 m_1 nr_4 nr_5 xr_9 xr_10 xr_11 xsr xsr_1 xsr_2 xsr_3 (fun (t8_2 : Bool) => (k0 t8_2)) (iterG N_ (st_binnaclelaw16_RootBlind_2_1 N_ S_binnaclelaw16_awake S_binnaclelaw16_of S_root_Check S_binnaclelaw16_f S_math_IsInf S_binnacleref01_Finite S_root_Update S_binnaclelaw16_same r 0 m_0 m_1 nr_4 nr_5 xr_9 xr_10 xr_11 xsr xsr_1 xsr_2 xsr_3 (fun (t8_3 : Bool) => (k0 t8_3)) (S_binnaclelaw16_f r (fun (xr_12 : Fl) => (S_binnaclelaw16_same xr_10 xr_12 (fun (cr_4 : Bool) => (k0 cr_4)))))) ())) 0))) (fun (nr_7 : Int) (nr_8 : Int) (xr_13 : Fl) (xr_14 : Fl) (xr_15 : Fl) (nr_9 : Int) (xsr_4 : List Fl) (xsr_5 : List Fl) (xsr_6 : List Fl) => (cond (nr_9 != 0) (cond ((nr_9 == 5) == true) (k0 ((((List.length xsr_4) : Nat) : Int) == 0)) (k0 false)) (iterG N_ (st_binnaclelaw16_RootBlind_0_2 N_ S_binnaclelaw16_awake S_binnaclelaw16_of S_root_Check S_binnaclelaw16_f S_math_IsInf S_binnacleref01_Finite S_root_Update S_binnaclelaw16_same r m_0 m_1 nr_7 nr_8 xr_13 xr_14 xr_15 xsr xsr_1 xsr_4 xsr_5 xsr_6 (fun (t8_4 : Bool) => (k0 t8_4)) (iterG N_ (st_binnaclelaw16_RootBlind_2_2 N_ S_binnaclelaw16_awake S_binnaclelaw16_of S_root_Check S_binnaclelaw16_f S_math_IsInf S_binnacleref01_Finite S_root_Update S_binnaclelaw16_same r m_0 m_1 nr_7 nr_8 xr_13 xr_14 xr_15 xsr xsr_1 xsr_4 xsr_5 xsr_6 (fun (t8_5 : Bool) => (k0 t8_5)) (S_binnaclelaw16_f r (fun (xr_16 : Fl) => (S_binnaclelaw16_same xr_14 xr_16 (fun (cr_5 : Bool) => (k0 cr_5)))))) 0)) 0)))))))))))))) (k0 true)))))) (k0 true)))) (k0 true)))))))))

def s_binnaclelaw16_RootBlind (N_ : Nat) : TS_binnaclelaw16_RootBlind := G_binnaclelaw16_RootBlind N_ (s_binnaclelaw16_awake N_) (s_binnaclelaw16_of N_) (s_root_Check N_) (s_binnaclelaw16_f N_) (s_math_IsInf N_) (s_binnacleref01_Finite N_) (s_root_Update N_) (s_binnaclelaw16_same N_)

end Go.Proofs.Ytoagmokejfcpbaa
