/-
  THE MEANINGS, as specifications (written by program).
  Conditions: none.
-/
import Derived.Test.YtoagmokejfcpbaaGp
import Derived.Test.YtoagmokejfcpbaaProg
namespace Go.Proofs.Ytoagmokejfcpbaa
open Go Go.Mach Go.Proofs
set_option linter.unusedVariables false
set_option maxRecDepth 20000

def isref : Nat → Bool := fun g => g == 50 || g == 49 || g == 51 || g == 79

def shF_math_Float64bits : FnSh := ⟨[.fb], []⟩
def sp_math_Float64bits (S_math_Float64bits : TS_math_Float64bits) : List Atom → (V → List Blk → Bool) → Bool := fun a_ k_ => match a_ with
  | [.nat a0] => S_math_Float64bits a0 (fun r0 => k_ (.int .u64 r0) [])
  | _ => false
abbrev F_math_Float64bits (S_math_Float64bits : TS_math_Float64bits) : Fs := mkFs shF_math_Float64bits (sp_math_Float64bits S_math_Float64bits)

def shF_anatomy_of : FnSh := ⟨[.litI .i64 0], []⟩
def sp_anatomy_of (S_anatomy_of : TS_anatomy_of) : List Atom → (V → List Blk → Bool) → Bool := fun a_ k_ => match a_ with
  | [] => S_anatomy_of (fun r0 r1 r2 => k_ (.agg [.int .u64 r0, .int .i64 r1, .int .i64 r2]) [])
  | _ => false
abbrev F_anatomy_of (S_anatomy_of : TS_anatomy_of) : Fs := mkFs shF_anatomy_of (sp_anatomy_of S_anatomy_of)

def shF_v_anatomy_format_sign : FnSh := ⟨[.agg [.int .u64, .int .i64, .int .i64]], []⟩
def sp_v_anatomy_format_sign (S_v_anatomy_format_sign : TS_v_anatomy_format_sign) : List Atom → (V → List Blk → Bool) → Bool := fun a_ k_ => match a_ with
  | [.int f_0, .int f_1, .int f_2] => S_v_anatomy_format_sign f_0 f_1 f_2 (fun r0 => k_ (.int .u64 r0) [])
  | _ => false
abbrev F_v_anatomy_format_sign (S_v_anatomy_format_sign : TS_v_anatomy_format_sign) : Fs := mkFs shF_v_anatomy_format_sign (sp_v_anatomy_format_sign S_v_anatomy_format_sign)

def shF_v_anatomy_format_infinite : FnSh := ⟨[.agg [.int .u64, .int .i64, .int .i64]], []⟩
def sp_v_anatomy_format_infinite (S_v_anatomy_format_infinite : TS_v_anatomy_format_infinite) : List Atom → (V → List Blk → Bool) → Bool := fun a_ k_ => match a_ with
  | [.int f_0, .int f_1, .int f_2] => S_v_anatomy_format_infinite f_0 f_1 f_2 (fun r0 => k_ (.int .u64 r0) [])
  | _ => false
abbrev F_v_anatomy_format_infinite (S_v_anatomy_format_infinite : TS_v_anatomy_format_infinite) : Fs := mkFs shF_v_anatomy_format_infinite (sp_v_anatomy_format_infinite S_v_anatomy_format_infinite)

def shF_anatomy_nan_uint64_ : FnSh := ⟨[.int .u64, .agg [.int .u64, .int .i64, .int .i64]], []⟩
def sp_anatomy_nan_uint64_ (S_anatomy_nan_uint64_ : TS_anatomy_nan_uint64_) : List Atom → (V → List Blk → Bool) → Bool := fun a_ k_ => match a_ with
  | [.int b, .int f_0, .int f_1, .int f_2] => S_anatomy_nan_uint64_ b f_0 f_1 f_2 (fun r0 => k_ (.bool r0) [])
  | _ => false
abbrev F_anatomy_nan_uint64_ (S_anatomy_nan_uint64_ : TS_anatomy_nan_uint64_) : Fs := mkFs shF_anatomy_nan_uint64_ (sp_anatomy_nan_uint64_ S_anatomy_nan_uint64_)

def shF_v_anatomy_format_hidden : FnSh := ⟨[.agg [.int .u64, .int .i64, .int .i64]], []⟩
def sp_v_anatomy_format_hidden (S_v_anatomy_format_hidden : TS_v_anatomy_format_hidden) : List Atom → (V → List Blk → Bool) → Bool := fun a_ k_ => match a_ with
  | [.int f_0, .int f_1, .int f_2] => S_v_anatomy_format_hidden f_0 f_1 f_2 (fun r0 => k_ (.int .u64 r0) [])
  | _ => false
abbrev F_v_anatomy_format_hidden (S_v_anatomy_format_hidden : TS_v_anatomy_format_hidden) : Fs := mkFs shF_v_anatomy_format_hidden (sp_v_anatomy_format_hidden S_v_anatomy_format_hidden)

def shF_v_anatomy_format_none : FnSh := ⟨[.agg [.int .u64, .int .i64, .int .i64]], []⟩
def sp_v_anatomy_format_none (S_v_anatomy_format_none : TS_v_anatomy_format_none) : List Atom → (V → List Blk → Bool) → Bool := fun a_ k_ => match a_ with
  | [.int f_0, .int f_1, .int f_2] => S_v_anatomy_format_none f_0 f_1 f_2 (fun r0 => k_ (.int .u64 r0) [])
  | _ => false
abbrev F_v_anatomy_format_none (S_v_anatomy_format_none : TS_v_anatomy_format_none) : Fs := mkFs shF_v_anatomy_format_none (sp_v_anatomy_format_none S_v_anatomy_format_none)

def shF_anatomy_canon_uint64_ : FnSh := ⟨[.int .u64, .agg [.int .u64, .int .i64, .int .i64]], []⟩
def sp_anatomy_canon_uint64_ (S_anatomy_canon_uint64_ : TS_anatomy_canon_uint64_) : List Atom → (V → List Blk → Bool) → Bool := fun a_ k_ => match a_ with
  | [.int b, .int f_0, .int f_1, .int f_2] => S_anatomy_canon_uint64_ b f_0 f_1 f_2 (fun r0 => k_ (.int .u64 r0) [])
  | _ => false
abbrev F_anatomy_canon_uint64_ (S_anatomy_canon_uint64_ : TS_anatomy_canon_uint64_) : Fs := mkFs shF_anatomy_canon_uint64_ (sp_anatomy_canon_uint64_ S_anatomy_canon_uint64_)

def shF_anatomy_split_uint64_ : FnSh := ⟨[.int .u64, .agg [.int .u64, .int .i64, .int .i64]], []⟩
def sp_anatomy_split_uint64_ (S_anatomy_split_uint64_ : TS_anatomy_split_uint64_) : List Atom → (V → List Blk → Bool) → Bool := fun a_ k_ => match a_ with
  | [.int b, .int f_0, .int f_1, .int f_2] => S_anatomy_split_uint64_ b f_0 f_1 f_2 (fun r0 r1 r2 => k_ (.tup [.bool r0, .int .i64 r1, .int .u64 r2]) [])
  | _ => false
abbrev F_anatomy_split_uint64_ (S_anatomy_split_uint64_ : TS_anatomy_split_uint64_) : Fs := mkFs shF_anatomy_split_uint64_ (sp_anatomy_split_uint64_ S_anatomy_split_uint64_)

def shF_anatomy_class_uint64_ : FnSh := ⟨[.int .u64, .agg [.int .u64, .int .i64, .int .i64]], []⟩
def sp_anatomy_class_uint64_ (S_anatomy_class_uint64_ : TS_anatomy_class_uint64_) : List Atom → (V → List Blk → Bool) → Bool := fun a_ k_ => match a_ with
  | [.int b, .int f_0, .int f_1, .int f_2] => S_anatomy_class_uint64_ b f_0 f_1 f_2 (fun r0 => k_ (.int .i64 r0) [])
  | _ => false
abbrev F_anatomy_class_uint64_ (S_anatomy_class_uint64_ : TS_anatomy_class_uint64_) : Fs := mkFs shF_anatomy_class_uint64_ (sp_anatomy_class_uint64_ S_anatomy_class_uint64_)

def shF_anatomy_Class : FnSh := ⟨[.fb], []⟩
def sp_anatomy_Class (S_anatomy_Class : TS_anatomy_Class) : List Atom → (V → List Blk → Bool) → Bool := fun a_ k_ => match a_ with
  | [.nat x] => S_anatomy_Class x (fun r0 => k_ (.int .i64 r0) [])
  | _ => false
abbrev F_anatomy_Class (S_anatomy_Class : TS_anatomy_Class) : Fs := mkFs shF_anatomy_Class (sp_anatomy_Class S_anatomy_Class)

def shF_anatomy_Same : FnSh := ⟨[.fb, .fb], []⟩
def sp_anatomy_Same (S_anatomy_Same : TS_anatomy_Same) : List Atom → (V → List Blk → Bool) → Bool := fun a_ k_ => match a_ with
  | [.nat a, .nat b] => S_anatomy_Same a b (fun r0 => k_ (.bool r0) [])
  | _ => false
abbrev F_anatomy_Same (S_anatomy_Same : TS_anatomy_Same) : Fs := mkFs shF_anatomy_Same (sp_anatomy_Same S_anatomy_Same)

def shF_math_Float64frombits : FnSh := ⟨[.int .u64], []⟩
def sp_math_Float64frombits (S_math_Float64frombits : TS_math_Float64frombits) : List Atom → (V → List Blk → Bool) → Bool := fun a_ k_ => match a_ with
  | [.int a0] => S_math_Float64frombits a0 (fun r0 => k_ (.flt r0) [])
  | _ => false
abbrev F_math_Float64frombits (S_math_Float64frombits : TS_math_Float64frombits) : Fs := mkFs shF_math_Float64frombits (sp_math_Float64frombits S_math_Float64frombits)

def shF_math_Abs : FnSh := ⟨[.fb], []⟩
def sp_math_Abs (S_math_Abs : TS_math_Abs) : List Atom → (V → List Blk → Bool) → Bool := fun a_ k_ => match a_ with
  | [.nat x] => S_math_Abs x (fun r0 => k_ (.flt r0) [])
  | _ => false
abbrev F_math_Abs (S_math_Abs : TS_math_Abs) : Fs := mkFs shF_math_Abs (sp_math_Abs S_math_Abs)

def shF_binnacleref01_Of64 : FnSh := ⟨[.roi .u64], []⟩
def sp_binnacleref01_Of64 (S_binnacleref01_Of64 : TS_binnacleref01_Of64) : List Atom → (V → List Blk → Bool) → Bool := fun a_ k_ => match a_ with
  | [.ints l] => S_binnacleref01_Of64 l (fun r0 => k_ (.slw 0) [⟨35, 1, .flts r0⟩])
  | _ => false
abbrev F_binnacleref01_Of64 (S_binnacleref01_Of64 : TS_binnacleref01_Of64) : Fs := mkFs shF_binnacleref01_Of64 (sp_binnacleref01_Of64 S_binnacleref01_Of64)

def shF_binnaclelaw16_l : FnSh := ⟨[.roi .u64], []⟩
def sp_binnaclelaw16_l (S_binnaclelaw16_l : TS_binnaclelaw16_l) : List Atom → (V → List Blk → Bool) → Bool := fun a_ k_ => match a_ with
  | [.ints b] => S_binnaclelaw16_l b (fun r0 => k_ (.slw 0) [⟨35, 1, .flts r0⟩])
  | _ => false
abbrev F_binnaclelaw16_l (S_binnaclelaw16_l : TS_binnaclelaw16_l) : Fs := mkFs shF_binnaclelaw16_l (sp_binnaclelaw16_l S_binnaclelaw16_l)

def shF_binnaclelaw16_mat : FnSh := ⟨[.agg [.int .i64, .int .i64, .roi .u64]], []⟩
def sp_binnaclelaw16_mat (S_binnaclelaw16_mat : TS_binnaclelaw16_mat) : List Atom → (V → List Blk → Bool) → Bool := fun a_ k_ => match a_ with
  | [.int m_0, .int m_1, .ints m_2] => S_binnaclelaw16_mat m_0 m_1 m_2 (fun r2 => k_ (.agg [.int .i64 m_0, .int .i64 m_1, .slw 0]) [⟨35, 1, .flts r2⟩])
  | _ => false
abbrev F_binnaclelaw16_mat (S_binnaclelaw16_mat : TS_binnaclelaw16_mat) : Fs := mkFs shF_binnaclelaw16_mat (sp_binnaclelaw16_mat S_binnaclelaw16_mat)

def shF_binnaclelaw16_of : FnSh := ⟨[.roi .u64, .agg [.int .i64, .int .i64, .roi .u64]], []⟩
def sp_binnaclelaw16_of (S_binnaclelaw16_of : TS_binnaclelaw16_of) : List Atom → (V → List Blk → Bool) → Bool := fun a_ k_ => match a_ with
  | [.ints x, .int m_0, .int m_1, .ints m_2] => S_binnaclelaw16_of x m_0 m_1 m_2 (fun r2 r3 => k_ (.agg [.slw 0, .int .i64 m_0, .int .i64 m_1, .slw 1]) [⟨35, 1, .flts r2⟩, ⟨35, 1, .flts r3⟩])
  | _ => false
abbrev F_binnaclelaw16_of (S_binnaclelaw16_of : TS_binnaclelaw16_of) : Fs := mkFs shF_binnaclelaw16_of (sp_binnaclelaw16_of S_binnaclelaw16_of)

def shF_binnaclelaw16_f : FnSh := ⟨[.int .u64], []⟩
def sp_binnaclelaw16_f (S_binnaclelaw16_f : TS_binnaclelaw16_f) : List Atom → (V → List Blk → Bool) → Bool := fun a_ k_ => match a_ with
  | [.int b] => S_binnaclelaw16_f b (fun r0 => k_ (.flt r0) [])
  | _ => false
abbrev F_binnaclelaw16_f (S_binnaclelaw16_f : TS_binnaclelaw16_f) : Fs := mkFs shF_binnaclelaw16_f (sp_binnaclelaw16_f S_binnaclelaw16_f)

def shF_matrix_size : FnSh := ⟨[.int .i64], []⟩
def sp_matrix_size (S_matrix_size : TS_matrix_size) : List Atom → (V → List Blk → Bool) → Bool := fun a_ k_ => match a_ with
  | [.int n] => S_matrix_size n (fun r0 => k_ (.bool r0) [])
  | _ => false
abbrev F_matrix_size (S_matrix_size : TS_matrix_size) : Fs := mkFs shF_matrix_size (sp_matrix_size S_matrix_size)

def shF_anatomy_Class_2 : FnSh := ⟨[.flt], []⟩
def sp_anatomy_Class_2 (S_anatomy_Class_2 : TS_anatomy_Class_2) : List Atom → (V → List Blk → Bool) → Bool := fun a_ k_ => match a_ with
  | [.fl x] => S_anatomy_Class_2 x (fun r0 => k_ (.int .i64 r0) [])
  | _ => false
abbrev F_anatomy_Class_2 (S_anatomy_Class_2 : TS_anatomy_Class_2) : Fs := mkFs shF_anatomy_Class_2 (sp_anatomy_Class_2 S_anatomy_Class_2)

def shF_anatomy_Finite : FnSh := ⟨[.rof], []⟩
def sp_anatomy_Finite (S_anatomy_Finite : TS_anatomy_Finite) : List Atom → (V → List Blk → Bool) → Bool := fun a_ k_ => match a_ with
  | [.fls l] => S_anatomy_Finite l (fun r0 => k_ (.bool r0) [])
  | _ => false
abbrev F_anatomy_Finite (S_anatomy_Finite : TS_anatomy_Finite) : Fs := mkFs shF_anatomy_Finite (sp_anatomy_Finite S_anatomy_Finite)

def shF_matrix_Check : FnSh := ⟨[.agg [.int .i64, .int .i64, .rof]], []⟩
def sp_matrix_Check (S_matrix_Check : TS_matrix_Check) : List Atom → (V → List Blk → Bool) → Bool := fun a_ k_ => match a_ with
  | [.int m_0, .int m_1, .fls m_2] => S_matrix_Check m_0 m_1 m_2 (fun r0 => k_ (.int .i64 r0) [])
  | _ => false
abbrev F_matrix_Check (S_matrix_Check : TS_matrix_Check) : Fs := mkFs shF_matrix_Check (sp_matrix_Check S_matrix_Check)

def shF_matrix_at : FnSh := ⟨[.agg [.int .i64, .int .i64, .rof], .int .i64, .int .i64], []⟩
def sp_matrix_at (S_matrix_at : TS_matrix_at) : List Atom → (V → List Blk → Bool) → Bool := fun a_ k_ => match a_ with
  | [.int m_0, .int m_1, .fls m_2, .int i, .int j] => S_matrix_at m_0 m_1 m_2 i j (fun r0 => k_ (.flt r0) [])
  | _ => false
abbrev F_matrix_at (S_matrix_at : TS_matrix_at) : Fs := mkFs shF_matrix_at (sp_matrix_at S_matrix_at)

def shF_anatomy_Same_2 : FnSh := ⟨[.flt, .flt], []⟩
def sp_anatomy_Same_2 (S_anatomy_Same_2 : TS_anatomy_Same_2) : List Atom → (V → List Blk → Bool) → Bool := fun a_ k_ => match a_ with
  | [.fl a, .fl b] => S_anatomy_Same_2 a b (fun r0 => k_ (.bool r0) [])
  | _ => false
abbrev F_anatomy_Same_2 (S_anatomy_Same_2 : TS_anatomy_Same_2) : Fs := mkFs shF_anatomy_Same_2 (sp_anatomy_Same_2 S_anatomy_Same_2)

def shF_matrix_Lower : FnSh := ⟨[.agg [.int .i64, .int .i64, .rof]], []⟩
def sp_matrix_Lower (S_matrix_Lower : TS_matrix_Lower) : List Atom → (V → List Blk → Bool) → Bool := fun a_ k_ => match a_ with
  | [.int m_0, .int m_1, .fls m_2] => S_matrix_Lower m_0 m_1 m_2 (fun r0 => k_ (.bool r0) [])
  | _ => false
abbrev F_matrix_Lower (S_matrix_Lower : TS_matrix_Lower) : Fs := mkFs shF_matrix_Lower (sp_matrix_Lower S_matrix_Lower)

def shF_root_above : FnSh := ⟨[.agg [.int .i64, .int .i64, .rof]], []⟩
def sp_root_above (S_root_above : TS_root_above) : List Atom → (V → List Blk → Bool) → Bool := fun a_ k_ => match a_ with
  | [.int l_0, .int l_1, .fls l_2] => S_root_above l_0 l_1 l_2 (fun r0 => k_ (.bool r0) [])
  | _ => false
abbrev F_root_above (S_root_above : TS_root_above) : Fs := mkFs shF_root_above (sp_root_above S_root_above)

def shF_root_Check : FnSh := ⟨[.agg [.rof, .int .i64, .int .i64, .rof]], []⟩
def sp_root_Check (S_root_Check : TS_root_Check) : List Atom → (V → List Blk → Bool) → Bool := fun a_ k_ => match a_ with
  | [.fls s_0, .int s_1, .int s_2, .fls s_3] => S_root_Check s_0 s_1 s_2 s_3 (fun r0 => k_ (.int .i64 r0) [])
  | _ => false
abbrev F_root_Check (S_root_Check : TS_root_Check) : Fs := mkFs shF_root_Check (sp_root_Check S_root_Check)

def shF_root_finite : FnSh := ⟨[.flt], []⟩
def sp_root_finite (S_root_finite : TS_root_finite) : List Atom → (V → List Blk → Bool) → Bool := fun a_ k_ => match a_ with
  | [.fl x] => S_root_finite x (fun r0 => k_ (.bool r0) [])
  | _ => false
abbrev F_root_finite (S_root_finite : TS_root_finite) : Fs := mkFs shF_root_finite (sp_root_finite S_root_finite)

def shF_root_checkRow : FnSh := ⟨[.int .i64, .rof, .flt], []⟩
def sp_root_checkRow (S_root_checkRow : TS_root_checkRow) : List Atom → (V → List Blk → Bool) → Bool := fun a_ k_ => match a_ with
  | [.int n, .fls h, .fl r] => S_root_checkRow n h r (fun r0 => k_ (.int .i64 r0) [])
  | _ => false
abbrev F_root_checkRow (S_root_checkRow : TS_root_checkRow) : Fs := mkFs shF_root_checkRow (sp_root_checkRow S_root_checkRow)

def shF_root_steps_see : FnSh := ⟨[.ptr 0 0, .flt], [some (78, 1, .cells [.bool])]⟩
def sp_root_steps_see (S_root_steps_see : TS_root_steps_see) : List Atom → (V → List Blk → Bool) → Bool := fun a_ k_ => match a_ with
  | [.fl x, .bool b] => S_root_steps_see x b (fun r1 => k_ (.flt x) [⟨78, 1, .cells [.bool r1]⟩])
  | _ => false
abbrev F_root_steps_see (S_root_steps_see : TS_root_steps_see) : Fs := mkFs shF_root_steps_see (sp_root_steps_see S_root_steps_see)

def shF_root_steps_dot : FnSh := ⟨[.ptr 0 0, .rof, .rof], [some (78, 1, .cells [.bool])]⟩
def sp_root_steps_dot (S_root_steps_dot : TS_root_steps_dot) : List Atom → (V → List Blk → Bool) → Bool := fun a_ k_ => match a_ with
  | [.fls a, .fls b, .bool b_1] => S_root_steps_dot a b b_1 (fun r0 r1 => k_ (.flt r0) [⟨78, 1, .cells [.bool r1]⟩])
  | _ => false
abbrev F_root_steps_dot (S_root_steps_dot : TS_root_steps_dot) : Fs := mkFs shF_root_steps_dot (sp_root_steps_dot S_root_steps_dot)

def shF_root_foresee : FnSh := ⟨[.agg [.rof, .int .i64, .int .i64, .rof], .rof, .flt, .ptr 0 0], [some (78, 1, .cells [.bool])]⟩
def sp_root_foresee (S_root_foresee : TS_root_foresee) : List Atom → (V → List Blk → Bool) → Bool := fun a_ k_ => match a_ with
  | [.fls s_0, .int s_1, .int s_2, .fls s_3, .fls h, .fl r, .bool b] => S_root_foresee s_0 s_1 s_2 s_3 h r b (fun r0 r1 r2 r3 => k_ (.agg [.flt r0, .slw 1, .slw 2]) [⟨78, 1, .cells [.bool r1]⟩, ⟨35, 1, .flts r2⟩, ⟨35, 1, .flts r3⟩])
  | _ => false
abbrev F_root_foresee (S_root_foresee : TS_root_foresee) : Fs := mkFs shF_root_foresee (sp_root_foresee S_root_foresee)

def shF_root_Foresee : FnSh := ⟨[.agg [.rof, .int .i64, .int .i64, .rof], .rof, .flt], []⟩
def sp_root_Foresee (S_root_Foresee : TS_root_Foresee) : List Atom → (V → List Blk → Bool) → Bool := fun a_ k_ => match a_ with
  | [.fls s_0, .int s_1, .int s_2, .fls s_3, .fls h, .fl r] => S_root_Foresee s_0 s_1 s_2 s_3 h r (fun r0 r1 r2 => k_ (.tup [.flt r0, .flt r1, .int .i64 r2]) [])
  | _ => false
abbrev F_root_Foresee (S_root_Foresee : TS_root_Foresee) : Fs := mkFs shF_root_Foresee (sp_root_Foresee S_root_Foresee)

def shF_math_Float64bits_2 : FnSh := ⟨[.flt], []⟩
def sp_math_Float64bits_2 (S_math_Float64bits_2 : TS_math_Float64bits_2) : List Atom → (V → List Blk → Bool) → Bool := fun a_ k_ => match a_ with
  | [.fl a0] => S_math_Float64bits_2 a0 (fun r0 => k_ (.int .u64 r0) [])
  | _ => false
abbrev F_math_Float64bits_2 (S_math_Float64bits_2 : TS_math_Float64bits_2) : Fs := mkFs shF_math_Float64bits_2 (sp_math_Float64bits_2 S_math_Float64bits_2)

def shF_binnacleref01_Bits : FnSh := ⟨[.flt], []⟩
def sp_binnacleref01_Bits (S_binnacleref01_Bits : TS_binnacleref01_Bits) : List Atom → (V → List Blk → Bool) → Bool := fun a_ k_ => match a_ with
  | [.fl x] => S_binnacleref01_Bits x (fun r0 => k_ (.int .u64 r0) [])
  | _ => false
abbrev F_binnacleref01_Bits (S_binnacleref01_Bits : TS_binnacleref01_Bits) : Fs := mkFs shF_binnacleref01_Bits (sp_binnacleref01_Bits S_binnacleref01_Bits)

def shF_binnacleref01_Split : FnSh := ⟨[.flt], []⟩
def sp_binnacleref01_Split (S_binnacleref01_Split : TS_binnacleref01_Split) : List Atom → (V → List Blk → Bool) → Bool := fun a_ k_ => match a_ with
  | [.fl x] => S_binnacleref01_Split x (fun r0 r1 r2 => k_ (.tup [.bool r0, .int .i64 r1, .int .u64 r2]) [])
  | _ => false
abbrev F_binnacleref01_Split (S_binnacleref01_Split : TS_binnacleref01_Split) : Fs := mkFs shF_binnacleref01_Split (sp_binnacleref01_Split S_binnacleref01_Split)

def shF_binnacleref01_classify : FnSh := ⟨[.int .i64, .int .u64, .int .i64], []⟩
def sp_binnacleref01_classify (S_binnacleref01_classify : TS_binnacleref01_classify) : List Atom → (V → List Blk → Bool) → Bool := fun a_ k_ => match a_ with
  | [.int exp, .int frac, .int most] => S_binnacleref01_classify exp frac most (fun r0 => k_ (.int .i64 r0) [])
  | _ => false
abbrev F_binnacleref01_classify (S_binnacleref01_classify : TS_binnacleref01_classify) : Fs := mkFs shF_binnacleref01_classify (sp_binnacleref01_classify S_binnacleref01_classify)

def shF_binnacleref01_Class : FnSh := ⟨[.flt], []⟩
def sp_binnacleref01_Class (S_binnacleref01_Class : TS_binnacleref01_Class) : List Atom → (V → List Blk → Bool) → Bool := fun a_ k_ => match a_ with
  | [.fl x] => S_binnacleref01_Class x (fun r0 => k_ (.int .i64 r0) [])
  | _ => false
abbrev F_binnacleref01_Class (S_binnacleref01_Class : TS_binnacleref01_Class) : Fs := mkFs shF_binnacleref01_Class (sp_binnacleref01_Class S_binnacleref01_Class)

def shF_binnacleref01_Finite : FnSh := ⟨[.flt], []⟩
def sp_binnacleref01_Finite (S_binnacleref01_Finite : TS_binnacleref01_Finite) : List Atom → (V → List Blk → Bool) → Bool := fun a_ k_ => match a_ with
  | [.fl x] => S_binnacleref01_Finite x (fun r0 => k_ (.bool r0) [])
  | _ => false
abbrev F_binnacleref01_Finite (S_binnacleref01_Finite : TS_binnacleref01_Finite) : Fs := mkFs shF_binnacleref01_Finite (sp_binnacleref01_Finite S_binnacleref01_Finite)

def shF_binnacleref01_AllFinite : FnSh := ⟨[.rof], []⟩
def sp_binnacleref01_AllFinite (S_binnacleref01_AllFinite : TS_binnacleref01_AllFinite) : List Atom → (V → List Blk → Bool) → Bool := fun a_ k_ => match a_ with
  | [.fls l] => S_binnacleref01_AllFinite l (fun r0 => k_ (.bool r0) [])
  | _ => false
abbrev F_binnacleref01_AllFinite (S_binnacleref01_AllFinite : TS_binnacleref01_AllFinite) : Fs := mkFs shF_binnacleref01_AllFinite (sp_binnacleref01_AllFinite S_binnacleref01_AllFinite)

def shF_binnacleref08_Check : FnSh := ⟨[.agg [.int .i64, .int .i64, .rof]], []⟩
def sp_binnacleref08_Check (S_binnacleref08_Check : TS_binnacleref08_Check) : List Atom → (V → List Blk → Bool) → Bool := fun a_ k_ => match a_ with
  | [.int m_0, .int m_1, .fls m_2] => S_binnacleref08_Check m_0 m_1 m_2 (fun r0 => k_ (.int .i64 r0) [])
  | _ => false
abbrev F_binnacleref08_Check (S_binnacleref08_Check : TS_binnacleref08_Check) : Fs := mkFs shF_binnacleref08_Check (sp_binnacleref08_Check S_binnacleref08_Check)

def shF_binnacleref03_shape : FnSh := ⟨[.int .i64, .int .i64, .int .i64], []⟩
def sp_binnacleref03_shape (S_binnacleref03_shape : TS_binnacleref03_shape) : List Atom → (V → List Blk → Bool) → Bool := fun a_ k_ => match a_ with
  | [.int rows, .int cols, .int n] => S_binnacleref03_shape rows cols n (fun r0 => k_ (.int .i64 r0) [])
  | _ => false
abbrev F_binnacleref03_shape (S_binnacleref03_shape : TS_binnacleref03_shape) : Fs := mkFs shF_binnacleref03_shape (sp_binnacleref03_shape S_binnacleref03_shape)

def shF_binnacleref03_Good : FnSh := ⟨[.agg [.int .i64, .int .i64, .rof]], []⟩
def sp_binnacleref03_Good (S_binnacleref03_Good : TS_binnacleref03_Good) : List Atom → (V → List Blk → Bool) → Bool := fun a_ k_ => match a_ with
  | [.int m_0, .int m_1, .fls m_2] => S_binnacleref03_Good m_0 m_1 m_2 (fun r0 => k_ (.int .i64 r0) [])
  | _ => false
abbrev F_binnacleref03_Good (S_binnacleref03_Good : TS_binnacleref03_Good) : Fs := mkFs shF_binnacleref03_Good (sp_binnacleref03_Good S_binnacleref03_Good)

def shF_binnacleref09_At : FnSh := ⟨[.agg [.int .i64, .int .i64, .rof], .int .i64, .int .i64], []⟩
def sp_binnacleref09_At (S_binnacleref09_At : TS_binnacleref09_At) : List Atom → (V → List Blk → Bool) → Bool := fun a_ k_ => match a_ with
  | [.int m_0, .int m_1, .fls m_2, .int i, .int j] => S_binnacleref09_At m_0 m_1 m_2 i j (fun r0 => k_ (.flt r0) [])
  | _ => false
abbrev F_binnacleref09_At (S_binnacleref09_At : TS_binnacleref09_At) : Fs := mkFs shF_binnacleref09_At (sp_binnacleref09_At S_binnacleref09_At)

def shF_binnacleref01_Same : FnSh := ⟨[.flt, .flt], []⟩
def sp_binnacleref01_Same (S_binnacleref01_Same : TS_binnacleref01_Same) : List Atom → (V → List Blk → Bool) → Bool := fun a_ k_ => match a_ with
  | [.fl a, .fl b] => S_binnacleref01_Same a b (fun r0 => k_ (.bool r0) [])
  | _ => false
abbrev F_binnacleref01_Same (S_binnacleref01_Same : TS_binnacleref01_Same) : Fs := mkFs shF_binnacleref01_Same (sp_binnacleref01_Same S_binnacleref01_Same)

def shF_binnacleref09_Triangle : FnSh := ⟨[.agg [.int .i64, .int .i64, .rof]], []⟩
def sp_binnacleref09_Triangle (S_binnacleref09_Triangle : TS_binnacleref09_Triangle) : List Atom → (V → List Blk → Bool) → Bool := fun a_ k_ => match a_ with
  | [.int m_0, .int m_1, .fls m_2] => S_binnacleref09_Triangle m_0 m_1 m_2 (fun r0 => k_ (.int .i64 r0) [])
  | _ => false
abbrev F_binnacleref09_Triangle (S_binnacleref09_Triangle : TS_binnacleref09_Triangle) : Fs := mkFs shF_binnacleref09_Triangle (sp_binnacleref09_Triangle S_binnacleref09_Triangle)

def shF_binnacleref16_Check : FnSh := ⟨[.agg [.rof, .int .i64, .int .i64, .rof]], []⟩
def sp_binnacleref16_Check (S_binnacleref16_Check : TS_binnacleref16_Check) : List Atom → (V → List Blk → Bool) → Bool := fun a_ k_ => match a_ with
  | [.fls s_0, .int s_1, .int s_2, .fls s_3] => S_binnacleref16_Check s_0 s_1 s_2 s_3 (fun r0 => k_ (.int .i64 r0) [])
  | _ => false
abbrev F_binnacleref16_Check (S_binnacleref16_Check : TS_binnacleref16_Check) : Fs := mkFs shF_binnacleref16_Check (sp_binnacleref16_Check S_binnacleref16_Check)

def shF_binnacleref15_Row : FnSh := ⟨[.int .i64, .rof, .flt], []⟩
def sp_binnacleref15_Row (S_binnacleref15_Row : TS_binnacleref15_Row) : List Atom → (V → List Blk → Bool) → Bool := fun a_ k_ => match a_ with
  | [.int n, .fls h, .fl r] => S_binnacleref15_Row n h r (fun r0 => k_ (.int .i64 r0) [])
  | _ => false
abbrev F_binnacleref15_Row (S_binnacleref15_Row : TS_binnacleref15_Row) : Fs := mkFs shF_binnacleref15_Row (sp_binnacleref15_Row S_binnacleref15_Row)

def shF_binnacleref08_First : FnSh := ⟨[.roi .i64], []⟩
def sp_binnacleref08_First (S_binnacleref08_First : TS_binnacleref08_First) : List Atom → (V → List Blk → Bool) → Bool := fun a_ k_ => match a_ with
  | [.ints l] => S_binnacleref08_First l (fun r0 => k_ (.int .i64 r0) [])
  | _ => false
abbrev F_binnacleref08_First (S_binnacleref08_First : TS_binnacleref08_First) : Fs := mkFs shF_binnacleref08_First (sp_binnacleref08_First S_binnacleref08_First)

def shF_binnacleref09_Steps_S : FnSh := ⟨[.ptr 0 0, .flt], [some (90, 1, .cells [.bool])]⟩
def sp_binnacleref09_Steps_S (S_binnacleref09_Steps_S : TS_binnacleref09_Steps_S) : List Atom → (V → List Blk → Bool) → Bool := fun a_ k_ => match a_ with
  | [.fl x, .bool b] => S_binnacleref09_Steps_S x b (fun r1 => k_ (.flt x) [⟨90, 1, .cells [.bool r1]⟩])
  | _ => false
abbrev F_binnacleref09_Steps_S (S_binnacleref09_Steps_S : TS_binnacleref09_Steps_S) : Fs := mkFs shF_binnacleref09_Steps_S (sp_binnacleref09_Steps_S S_binnacleref09_Steps_S)

def shF_binnacleref09_Steps_Dot : FnSh := ⟨[.ptr 0 0, .rof, .rof], [some (90, 1, .cells [.bool])]⟩
def sp_binnacleref09_Steps_Dot (S_binnacleref09_Steps_Dot : TS_binnacleref09_Steps_Dot) : List Atom → (V → List Blk → Bool) → Bool := fun a_ k_ => match a_ with
  | [.fls a, .fls b, .bool b_1] => S_binnacleref09_Steps_Dot a b b_1 (fun r0 r1 => k_ (.flt r0) [⟨90, 1, .cells [.bool r1]⟩])
  | _ => false
abbrev F_binnacleref09_Steps_Dot (S_binnacleref09_Steps_Dot : TS_binnacleref09_Steps_Dot) : Fs := mkFs shF_binnacleref09_Steps_Dot (sp_binnacleref09_Steps_Dot S_binnacleref09_Steps_Dot)

def shF_binnacleref08_At : FnSh := ⟨[.agg [.int .i64, .int .i64, .rof], .int .i64, .int .i64], []⟩
def sp_binnacleref08_At (S_binnacleref08_At : TS_binnacleref08_At) : List Atom → (V → List Blk → Bool) → Bool := fun a_ k_ => match a_ with
  | [.int m_0, .int m_1, .fls m_2, .int i, .int j] => S_binnacleref08_At m_0 m_1 m_2 i j (fun r0 => k_ (.flt r0) [])
  | _ => false
abbrev F_binnacleref08_At (S_binnacleref08_At : TS_binnacleref08_At) : Fs := mkFs shF_binnacleref08_At (sp_binnacleref08_At S_binnacleref08_At)

def shF_binnacleref08_Col : FnSh := ⟨[.agg [.int .i64, .int .i64, .rof], .int .i64], []⟩
def sp_binnacleref08_Col (S_binnacleref08_Col : TS_binnacleref08_Col) : List Atom → (V → List Blk → Bool) → Bool := fun a_ k_ => match a_ with
  | [.int m_0, .int m_1, .fls m_2, .int j] => S_binnacleref08_Col m_0 m_1 m_2 j (fun r0 => k_ (.slw 0) [⟨35, 1, .flts r0⟩])
  | _ => false
abbrev F_binnacleref08_Col (S_binnacleref08_Col : TS_binnacleref08_Col) : Fs := mkFs shF_binnacleref08_Col (sp_binnacleref08_Col S_binnacleref08_Col)

def shF_binnacleref16_seen : FnSh := ⟨[.agg [.rof, .int .i64, .int .i64, .rof], .rof, .flt, .ptr 0 0], [some (90, 1, .cells [.bool])]⟩
def sp_binnacleref16_seen (S_binnacleref16_seen : TS_binnacleref16_seen) : List Atom → (V → List Blk → Bool) → Bool := fun a_ k_ => match a_ with
  | [.fls s_0, .int s_1, .int s_2, .fls s_3, .fls h, .fl r, .bool b] => S_binnacleref16_seen s_0 s_1 s_2 s_3 h r b (fun r0 r1 r2 r3 => k_ (.tup [.flt r0, .slw 1, .slw 2]) [⟨90, 1, .cells [.bool r1]⟩, ⟨35, 1, .flts r2⟩, ⟨35, 1, .flts r3⟩])
  | _ => false
abbrev F_binnacleref16_seen (S_binnacleref16_seen : TS_binnacleref16_seen) : Fs := mkFs shF_binnacleref16_seen (sp_binnacleref16_seen S_binnacleref16_seen)

def shF_binnacleref16_Foresee : FnSh := ⟨[.agg [.rof, .int .i64, .int .i64, .rof], .rof, .flt], []⟩
def sp_binnacleref16_Foresee (S_binnacleref16_Foresee : TS_binnacleref16_Foresee) : List Atom → (V → List Blk → Bool) → Bool := fun a_ k_ => match a_ with
  | [.fls s_0, .int s_1, .int s_2, .fls s_3, .fls h, .fl r] => S_binnacleref16_Foresee s_0 s_1 s_2 s_3 h r (fun r0 r1 r2 => k_ (.tup [.flt r0, .flt r1, .int .i64 r2]) [])
  | _ => false
abbrev F_binnacleref16_Foresee (S_binnacleref16_Foresee : TS_binnacleref16_Foresee) : Fs := mkFs shF_binnacleref16_Foresee (sp_binnacleref16_Foresee S_binnacleref16_Foresee)

def shF_binnaclelaw16_same : FnSh := ⟨[.flt, .flt], []⟩
def sp_binnaclelaw16_same (S_binnaclelaw16_same : TS_binnaclelaw16_same) : List Atom → (V → List Blk → Bool) → Bool := fun a_ k_ => match a_ with
  | [.fl a, .fl b] => S_binnaclelaw16_same a b (fun r0 => k_ (.bool r0) [])
  | _ => false
abbrev F_binnaclelaw16_same (S_binnaclelaw16_same : TS_binnaclelaw16_same) : Fs := mkFs shF_binnaclelaw16_same (sp_binnaclelaw16_same S_binnaclelaw16_same)

def shF_matrix_Zero_1 : FnSh := ⟨[.int .i64, .int .i64], []⟩
def sp_matrix_Zero_1 (S_matrix_Zero_1 : TS_matrix_Zero_1) : List Atom → (V → List Blk → Bool) → Bool := fun a_ k_ => match a_ with
  | [.int i, .int j] => S_matrix_Zero_1 i j (fun r0 => k_ (.flt r0) [])
  | _ => false
abbrev F_matrix_Zero_1 (S_matrix_Zero_1 : TS_matrix_Zero_1) : Fs := mkFs shF_matrix_Zero_1 (sp_matrix_Zero_1 S_matrix_Zero_1)

def shF_matrix_fill : FnSh := ⟨[.int .i64, .int .i64, .fn 80 []], []⟩
def sp_matrix_fill (S_matrix_fill : TS_matrix_fill) : List Atom → (V → List Blk → Bool) → Bool := fun a_ k_ => match a_ with
  | [.int rows, .int cols] => S_matrix_fill rows cols (fun r2 => k_ (.agg [.int .i64 rows, .int .i64 cols, .slw 0]) [⟨35, 1, .flts r2⟩])
  | _ => false
abbrev F_matrix_fill (S_matrix_fill : TS_matrix_fill) : Fs := mkFs shF_matrix_fill (sp_matrix_fill S_matrix_fill)

def shF_matrix_Zero : FnSh := ⟨[.int .i64, .int .i64], []⟩
def sp_matrix_Zero (S_matrix_Zero : TS_matrix_Zero) : List Atom → (V → List Blk → Bool) → Bool := fun a_ k_ => match a_ with
  | [.int rows, .int cols] => S_matrix_Zero rows cols (fun r0 r1 r2 => k_ (.tup [.agg [.int .i64 r0, .int .i64 r1, .nil], .int .i64 r2]) []) (fun r2 r3 => k_ (.tup [.agg [.int .i64 rows, .int .i64 cols, .slw 0], .int .i64 r2]) [⟨35, 1, .flts r3⟩])
  | _ => false
abbrev F_matrix_Zero (S_matrix_Zero : TS_matrix_Zero) : Fs := mkFs shF_matrix_Zero (sp_matrix_Zero S_matrix_Zero)

def shF_math_sqrt : FnSh := ⟨[.flt], []⟩
def sp_math_sqrt (S_math_sqrt : TS_math_sqrt) : List Atom → (V → List Blk → Bool) → Bool := fun a_ k_ => match a_ with
  | [.fl a0] => S_math_sqrt a0 (fun r0 => k_ (.flt r0) [])
  | _ => false
abbrev F_math_sqrt (S_math_sqrt : TS_math_sqrt) : Fs := mkFs shF_math_sqrt (sp_math_sqrt S_math_sqrt)

def shF_math_Sqrt : FnSh := ⟨[.flt], []⟩
def sp_math_Sqrt (S_math_Sqrt : TS_math_Sqrt) : List Atom → (V → List Blk → Bool) → Bool := fun a_ k_ => match a_ with
  | [.fl x] => S_math_Sqrt x (fun r0 => k_ (.flt r0) [])
  | _ => false
abbrev F_math_Sqrt (S_math_Sqrt : TS_math_Sqrt) : Fs := mkFs shF_math_Sqrt (sp_math_Sqrt S_math_Sqrt)

def shF_root_carlson : FnSh := ⟨[.agg [.rof, .int .i64, .int .i64, .rof], .agg [.flt, .rof, .rof], .ptr 0 0], [some (78, 1, .cells [.bool])]⟩
def sp_root_carlson (S_root_carlson : TS_root_carlson) : List Atom → (V → List Blk → Bool) → Bool := fun a_ k_ => match a_ with
  | [.fls s_0, .int s_1, .int s_2, .fls s_3, .fl o_0, .fls o_1, .fls o_2, .bool b] => S_root_carlson s_0 s_1 s_2 s_3 o_0 o_1 o_2 b (fun r0 r1 r2 r3 => k_ (.tup [.agg [.int .i64 r0, .int .i64 r1, .nil], .slw 1]) [⟨78, 1, .cells [.bool r2]⟩, ⟨35, 1, .flts r3⟩]) (fun r0 r1 r2 r3 r4 => k_ (.tup [.agg [.int .i64 r0, .int .i64 r1, .slw 1], .slw 2]) [⟨78, 1, .cells [.bool r2]⟩, ⟨35, 1, .flts r3⟩, ⟨35, 1, .flts r4⟩])
  | _ => false
abbrev F_root_carlson (S_root_carlson : TS_root_carlson) : Fs := mkFs shF_root_carlson (sp_root_carlson S_root_carlson)

def shF_root_Update : FnSh := ⟨[.agg [.rof, .int .i64, .int .i64, .rof], .rof, .flt, .flt], []⟩
def sp_root_Update (S_root_Update : TS_root_Update) : List Atom → (V → List Blk → Bool) → Bool := fun a_ k_ => match a_ with
  | [.fls s_0, .int s_1, .int s_2, .fls s_3, .fls h, .fl r, .fl z] => S_root_Update s_0 s_1 s_2 s_3 h r z (fun r0 r1 r2 r3 r4 r5 => k_ (.tup [.agg [.nil, .int .i64 r0, .int .i64 r1, .nil], .agg [.flt r2, .flt r3, .flt r4, .nil], .int .i64 r5]) []) (fun r0 r1 r2 r3 r4 r5 r6 r7 => k_ (.tup [.agg [.slw 0, .int .i64 r0, .int .i64 r1, .nil], .agg [.flt r2, .flt r3, .flt r4, .slw 1], .int .i64 r5]) [⟨35, 1, .flts r6⟩, ⟨35, 1, .flts r7⟩]) (fun r0 r1 r2 r3 r4 r5 r6 r7 r8 => k_ (.tup [.agg [.slw 0, .int .i64 r0, .int .i64 r1, .slw 1], .agg [.flt r2, .flt r3, .flt r4, .slw 2], .int .i64 r5]) [⟨35, 1, .flts r6⟩, ⟨35, 1, .flts r7⟩, ⟨35, 1, .flts r8⟩])
  | _ => false
abbrev F_root_Update (S_root_Update : TS_root_Update) : Fs := mkFs shF_root_Update (sp_root_Update S_root_Update)

def shF_chol_at : FnSh := ⟨[.agg [.int .i64, .int .i64, .rof], .int .i64, .int .i64], []⟩
def sp_chol_at (S_chol_at : TS_chol_at) : List Atom → (V → List Blk → Bool) → Bool := fun a_ k_ => match a_ with
  | [.int m_0, .int m_1, .fls m_2, .int i, .int j] => S_chol_at m_0 m_1 m_2 i j (fun r0 => k_ (.flt r0) [])
  | _ => false
abbrev F_chol_at (S_chol_at : TS_chol_at) : Fs := mkFs shF_chol_at (sp_chol_at S_chol_at)

def shF_chol_triangle : FnSh := ⟨[.agg [.int .i64, .int .i64, .rof]], []⟩
def sp_chol_triangle (S_chol_triangle : TS_chol_triangle) : List Atom → (V → List Blk → Bool) → Bool := fun a_ k_ => match a_ with
  | [.int l_0, .int l_1, .fls l_2] => S_chol_triangle l_0 l_1 l_2 (fun r0 => k_ (.int .i64 r0) [])
  | _ => false
abbrev F_chol_triangle (S_chol_triangle : TS_chol_triangle) : Fs := mkFs shF_chol_triangle (sp_chol_triangle S_chol_triangle)

def shF_chol_fits : FnSh := ⟨[.int .i64, .rof], []⟩
def sp_chol_fits (S_chol_fits : TS_chol_fits) : List Atom → (V → List Blk → Bool) → Bool := fun a_ k_ => match a_ with
  | [.int rows, .fls b] => S_chol_fits rows b (fun r0 => k_ (.int .i64 r0) [])
  | _ => false
abbrev F_chol_fits (S_chol_fits : TS_chol_fits) : Fs := mkFs shF_chol_fits (sp_chol_fits S_chol_fits)

def shF_chol_steps_of : FnSh := ⟨[.ptr 0 0, .flt], [some (131, 1, .cells [.bool])]⟩
def sp_chol_steps_of (S_chol_steps_of : TS_chol_steps_of) : List Atom → (V → List Blk → Bool) → Bool := fun a_ k_ => match a_ with
  | [.fl x, .bool b] => S_chol_steps_of x b (fun r1 => k_ (.flt x) [⟨131, 1, .cells [.bool r1]⟩])
  | _ => false
abbrev F_chol_steps_of (S_chol_steps_of : TS_chol_steps_of) : Fs := mkFs shF_chol_steps_of (sp_chol_steps_of S_chol_steps_of)

def shF_chol_steps_times : FnSh := ⟨[.ptr 0 0, .flt, .flt], [some (131, 1, .cells [.bool])]⟩
def sp_chol_steps_times (S_chol_steps_times : TS_chol_steps_times) : List Atom → (V → List Blk → Bool) → Bool := fun a_ k_ => match a_ with
  | [.fl a, .fl b, .bool b_1] => S_chol_steps_times a b b_1 (fun r0 r1 => k_ (.flt r0) [⟨131, 1, .cells [.bool r1]⟩])
  | _ => false
abbrev F_chol_steps_times (S_chol_steps_times : TS_chol_steps_times) : Fs := mkFs shF_chol_steps_times (sp_chol_steps_times S_chol_steps_times)

def shF_chol_steps_less : FnSh := ⟨[.ptr 0 0, .flt, .flt], [some (131, 1, .cells [.bool])]⟩
def sp_chol_steps_less (S_chol_steps_less : TS_chol_steps_less) : List Atom → (V → List Blk → Bool) → Bool := fun a_ k_ => match a_ with
  | [.fl t, .fl p, .bool b] => S_chol_steps_less t p b (fun r0 r1 => k_ (.flt r0) [⟨131, 1, .cells [.bool r1]⟩])
  | _ => false
abbrev F_chol_steps_less (S_chol_steps_less : TS_chol_steps_less) : Fs := mkFs shF_chol_steps_less (sp_chol_steps_less S_chol_steps_less)

def shF_chol_steps_down : FnSh := ⟨[.ptr 0 0, .agg [.int .i64, .int .i64, .rof], .rof], [some (131, 1, .cells [.bool])]⟩
def sp_chol_steps_down (S_chol_steps_down : TS_chol_steps_down) : List Atom → (V → List Blk → Bool) → Bool := fun a_ k_ => match a_ with
  | [.int l_0, .int l_1, .fls l_2, .fls b, .bool b_1] => S_chol_steps_down l_0 l_1 l_2 b b_1 (fun r0 r1 => k_ (.slw 1) [⟨131, 1, .cells [.bool r0]⟩, ⟨35, 1, .flts r1⟩])
  | _ => false
abbrev F_chol_steps_down (S_chol_steps_down : TS_chol_steps_down) : Fs := mkFs shF_chol_steps_down (sp_chol_steps_down S_chol_steps_down)

def shF_chol_by : FnSh := ⟨[.agg [.int .i64, .int .i64, .rof], .rof, .fn 75 []], []⟩
def sp_chol_by (S_chol_by : TS_chol_by) : List Atom → (V → List Blk → Bool) → Bool := fun a_ k_ => match a_ with
  | [.int l_0, .int l_1, .fls l_2, .fls b] => S_chol_by l_0 l_1 l_2 b (fun r0 => k_ (.tup [.nil, .int .i64 r0]) []) (fun r0 r1 => k_ (.tup [.slw 0, .int .i64 r0]) [⟨35, 1, .flts r1⟩])
  | _ => false
abbrev F_chol_by (S_chol_by : TS_chol_by) : Fs := mkFs shF_chol_by (sp_chol_by S_chol_by)

def shF_chol_Lower : FnSh := ⟨[.agg [.int .i64, .int .i64, .rof], .rof], []⟩
def sp_chol_Lower (S_chol_Lower : TS_chol_Lower) : List Atom → (V → List Blk → Bool) → Bool := fun a_ k_ => match a_ with
  | [.int l_0, .int l_1, .fls l_2, .fls b] => S_chol_Lower l_0 l_1 l_2 b (fun r0 => k_ (.tup [.nil, .int .i64 r0]) []) (fun r0 r1 => k_ (.tup [.slw 0, .int .i64 r0]) [⟨35, 1, .flts r1⟩])
  | _ => false
abbrev F_chol_Lower (S_chol_Lower : TS_chol_Lower) : Fs := mkFs shF_chol_Lower (sp_chol_Lower S_chol_Lower)

def shF_root_Distance : FnSh := ⟨[.agg [.rof, .int .i64, .int .i64, .rof], .rof], []⟩
def sp_root_Distance (S_root_Distance : TS_root_Distance) : List Atom → (V → List Blk → Bool) → Bool := fun a_ k_ => match a_ with
  | [.fls s_0, .int s_1, .int s_2, .fls s_3, .fls x] => S_root_Distance s_0 s_1 s_2 s_3 x (fun r0 r1 => k_ (.tup [.flt r0, .int .i64 r1]) [])
  | _ => false
abbrev F_root_Distance (S_root_Distance : TS_root_Distance) : Fs := mkFs shF_root_Distance (sp_root_Distance S_root_Distance)

def shF_binnaclelaw16_awake : FnSh := ⟨[], []⟩
def sp_binnaclelaw16_awake (S_binnaclelaw16_awake : TS_binnaclelaw16_awake) : List Atom → (V → List Blk → Bool) → Bool := fun a_ k_ => match a_ with
  | [] => S_binnaclelaw16_awake (fun r0 => k_ (.bool r0) [])
  | _ => false
abbrev F_binnaclelaw16_awake (S_binnaclelaw16_awake : TS_binnaclelaw16_awake) : Fs := mkFs shF_binnaclelaw16_awake (sp_binnaclelaw16_awake S_binnaclelaw16_awake)

def shF_binnacleref08_If : FnSh := ⟨[.bool, .int .i64], []⟩
def sp_binnacleref08_If (S_binnacleref08_If : TS_binnacleref08_If) : List Atom → (V → List Blk → Bool) → Bool := fun a_ k_ => match a_ with
  | [.bool is, .int e] => S_binnacleref08_If is e (fun r0 => k_ (.int .i64 r0) [])
  | _ => false
abbrev F_binnacleref08_If (S_binnacleref08_If : TS_binnacleref08_If) : Fs := mkFs shF_binnacleref08_If (sp_binnacleref08_If S_binnacleref08_If)

def shF_binnacleref08_Raw : FnSh := ⟨[.int .i64, .int .i64], []⟩
def sp_binnacleref08_Raw (S_binnacleref08_Raw : TS_binnacleref08_Raw) : List Atom → (V → List Blk → Bool) → Bool := fun a_ k_ => match a_ with
  | [.int rows, .int cols] => S_binnacleref08_Raw rows cols (fun r2 => k_ (.agg [.int .i64 rows, .int .i64 cols, .slw 0]) [⟨35, 1, .flts r2⟩])
  | _ => false
abbrev F_binnacleref08_Raw (S_binnacleref08_Raw : TS_binnacleref08_Raw) : Fs := mkFs shF_binnacleref08_Raw (sp_binnacleref08_Raw S_binnacleref08_Raw)

def shF_binnacleref08_Put : FnSh := ⟨[.agg [.int .i64, .int .i64, .slw 0], .int .i64, .int .i64, .flt], [some (35, 1, .flts)]⟩
def sp_binnacleref08_Put (S_binnacleref08_Put : TS_binnacleref08_Put) : List Atom → (V → List Blk → Bool) → Bool := fun a_ k_ => match a_ with
  | [.int m_0, .int m_1, .int i, .int j, .fl x, .fls b] => S_binnacleref08_Put m_0 m_1 i j x b (fun r0 => k_ (.tup []) [⟨35, 1, .flts r0⟩])
  | _ => false
abbrev F_binnacleref08_Put (S_binnacleref08_Put : TS_binnacleref08_Put) : Fs := mkFs shF_binnacleref08_Put (sp_binnacleref08_Put S_binnacleref08_Put)

def shF_binnacleref08_At_2 : FnSh := ⟨[.agg [.int .i64, .int .i64, .slw 0], .int .i64, .int .i64], [some (35, 1, .flts)]⟩
def sp_binnacleref08_At_2 (S_binnacleref08_At_2 : TS_binnacleref08_At_2) : List Atom → (V → List Blk → Bool) → Bool := fun a_ k_ => match a_ with
  | [.int m_0, .int m_1, .int i, .int j, .fls b] => S_binnacleref08_At_2 m_0 m_1 i j b (fun r0 => k_ (.flt r0) [⟨35, 1, .flts b⟩])
  | _ => false
abbrev F_binnacleref08_At_2 (S_binnacleref08_At_2 : TS_binnacleref08_At_2) : Fs := mkFs shF_binnacleref08_At_2 (sp_binnacleref08_At_2 S_binnacleref08_At_2)

def shF_binnacleref16_ended : FnSh := ⟨[.slw 0, .agg [.int .i64, .int .i64, .slw 1]], [some (35, 1, .flts), some (35, 1, .flts)]⟩
def sp_binnacleref16_ended (S_binnacleref16_ended : TS_binnacleref16_ended) : List Atom → (V → List Blk → Bool) → Bool := fun a_ k_ => match a_ with
  | [.int l_0, .int l_1, .fls b, .fls b_1] => S_binnacleref16_ended l_0 l_1 b b_1 (fun r0 r1 r2 => k_ (.tup [.agg [.nil, .int .i64 r0, .int .i64 r1, .nil], .int .i64 r2]) [⟨35, 1, .flts b⟩, ⟨35, 1, .flts b_1⟩]) (fun r2 => k_ (.tup [.agg [.slw 0, .int .i64 l_0, .int .i64 l_1, .slw 1], .int .i64 r2]) [⟨35, 1, .flts b⟩, ⟨35, 1, .flts b_1⟩])
  | _ => false
abbrev F_binnacleref16_ended (S_binnacleref16_ended : TS_binnacleref16_ended) : Fs := mkFs shF_binnacleref16_ended (sp_binnacleref16_ended S_binnacleref16_ended)

def shF_binnacleref16_Update : FnSh := ⟨[.agg [.rof, .int .i64, .int .i64, .rof], .rof, .flt, .flt], []⟩
def sp_binnacleref16_Update (S_binnacleref16_Update : TS_binnacleref16_Update) : List Atom → (V → List Blk → Bool) → Bool := fun a_ k_ => match a_ with
  | [.fls s_0, .int s_1, .int s_2, .fls s_3, .fls h, .fl r, .fl z] => S_binnacleref16_Update s_0 s_1 s_2 s_3 h r z (fun r0 r1 r2 r3 r4 r5 => k_ (.tup [.agg [.nil, .int .i64 r0, .int .i64 r1, .nil], .agg [.flt r2, .flt r3, .flt r4, .nil], .int .i64 r5]) []) (fun r0 r1 r2 r3 r4 r5 r6 => k_ (.tup [.agg [.nil, .int .i64 r0, .int .i64 r1, .nil], .agg [.flt r2, .flt r3, .flt r4, .slw 0], .int .i64 r5]) [⟨35, 1, .flts r6⟩]) (fun r0 r1 r2 r3 r4 r5 r6 r7 r8 => k_ (.tup [.agg [.slw 0, .int .i64 r0, .int .i64 r1, .slw 1], .agg [.flt r2, .flt r3, .flt r4, .slw 2], .int .i64 r5]) [⟨35, 1, .flts r6⟩, ⟨35, 1, .flts r7⟩, ⟨35, 1, .flts r8⟩])
  | _ => false
abbrev F_binnacleref16_Update (S_binnacleref16_Update : TS_binnacleref16_Update) : Fs := mkFs shF_binnacleref16_Update (sp_binnacleref16_Update S_binnacleref16_Update)

def shF_binnacleref01_SameList : FnSh := ⟨[.rof, .rof], []⟩
def sp_binnacleref01_SameList (S_binnacleref01_SameList : TS_binnacleref01_SameList) : List Atom → (V → List Blk → Bool) → Bool := fun a_ k_ => match a_ with
  | [.fls a, .fls b] => S_binnacleref01_SameList a b (fun r0 => k_ (.bool r0) [])
  | _ => false
abbrev F_binnacleref01_SameList (S_binnacleref01_SameList : TS_binnacleref01_SameList) : Fs := mkFs shF_binnacleref01_SameList (sp_binnacleref01_SameList S_binnacleref01_SameList)

def shF_binnacleref15_list : FnSh := ⟨[.rof, .rof], []⟩
def sp_binnacleref15_list (S_binnacleref15_list : TS_binnacleref15_list) : List Atom → (V → List Blk → Bool) → Bool := fun a_ k_ => match a_ with
  | [.fls a, .fls b] => S_binnacleref15_list a b (fun r0 => k_ (.bool r0) [])
  | _ => false
abbrev F_binnacleref15_list (S_binnacleref15_list : TS_binnacleref15_list) : Fs := mkFs shF_binnacleref15_list (sp_binnacleref15_list S_binnacleref15_list)

def shF_binnacleref15_SameMat : FnSh := ⟨[.agg [.int .i64, .int .i64, .rof], .agg [.int .i64, .int .i64, .rof]], []⟩
def sp_binnacleref15_SameMat (S_binnacleref15_SameMat : TS_binnacleref15_SameMat) : List Atom → (V → List Blk → Bool) → Bool := fun a_ k_ => match a_ with
  | [.int a_0, .int a_1, .fls a_2, .int b_0, .int b_1, .fls b_2] => S_binnacleref15_SameMat a_0 a_1 a_2 b_0 b_1 b_2 (fun r0 => k_ (.bool r0) [])
  | _ => false
abbrev F_binnacleref15_SameMat (S_binnacleref15_SameMat : TS_binnacleref15_SameMat) : Fs := mkFs shF_binnacleref15_SameMat (sp_binnacleref15_SameMat S_binnacleref15_SameMat)

def shF_binnacleref16_Same : FnSh := ⟨[.agg [.rof, .int .i64, .int .i64, .rof], .agg [.rof, .int .i64, .int .i64, .rof]], []⟩
def sp_binnacleref16_Same (S_binnacleref16_Same : TS_binnacleref16_Same) : List Atom → (V → List Blk → Bool) → Bool := fun a_ k_ => match a_ with
  | [.fls a_0, .int a_1, .int a_2, .fls a_3, .fls b_0, .int b_1, .int b_2, .fls b_3] => S_binnacleref16_Same a_0 a_1 a_2 a_3 b_0 b_1 b_2 b_3 (fun r0 => k_ (.bool r0) [])
  | _ => false
abbrev F_binnacleref16_Same (S_binnacleref16_Same : TS_binnacleref16_Same) : Fs := mkFs shF_binnacleref16_Same (sp_binnacleref16_Same S_binnacleref16_Same)

def shF_binnaclelaw16_told : FnSh := ⟨[.agg [.rof, .int .i64, .int .i64, .rof], .int .i64, .agg [.rof, .int .i64, .int .i64, .rof], .int .i64], []⟩
def sp_binnaclelaw16_told (S_binnaclelaw16_told : TS_binnaclelaw16_told) : List Atom → (V → List Blk → Bool) → Bool := fun a_ k_ => match a_ with
  | [.fls a_0, .int a_1, .int a_2, .fls a_3, .int e, .fls b_0, .int b_1, .int b_2, .fls b_3, .int n] => S_binnaclelaw16_told a_0 a_1 a_2 a_3 e b_0 b_1 b_2 b_3 n (fun r0 => k_ (.bool r0) [])
  | _ => false
abbrev F_binnaclelaw16_told (S_binnaclelaw16_told : TS_binnaclelaw16_told) : Fs := mkFs shF_binnaclelaw16_told (sp_binnaclelaw16_told S_binnaclelaw16_told)

def shF_binnacleref15_SameStep : FnSh := ⟨[.agg [.flt, .flt, .flt, .rof], .agg [.flt, .flt, .flt, .rof]], []⟩
def sp_binnacleref15_SameStep (S_binnacleref15_SameStep : TS_binnacleref15_SameStep) : List Atom → (V → List Blk → Bool) → Bool := fun a_ k_ => match a_ with
  | [.fl a_0, .fl a_1, .fl a_2, .fls a_3, .fl b_0, .fl b_1, .fl b_2, .fls b_3] => S_binnacleref15_SameStep a_0 a_1 a_2 a_3 b_0 b_1 b_2 b_3 (fun r0 => k_ (.bool r0) [])
  | _ => false
abbrev F_binnacleref15_SameStep (S_binnacleref15_SameStep : TS_binnacleref15_SameStep) : Fs := mkFs shF_binnacleref15_SameStep (sp_binnacleref15_SameStep S_binnacleref15_SameStep)

def shF_binnaclelaw16_RootUpdates : FnSh := ⟨[.roi .u64, .agg [.int .i64, .int .i64, .roi .u64], .agg [.roi .u64, .int .u64, .int .u64]], []⟩
def sp_binnaclelaw16_RootUpdates (S_binnaclelaw16_RootUpdates : TS_binnaclelaw16_RootUpdates) : List Atom → (V → List Blk → Bool) → Bool := fun a_ k_ => match a_ with
  | [.ints x, .int m_0, .int m_1, .ints m_2, .ints w_0, .int w_1, .int w_2] => S_binnaclelaw16_RootUpdates x m_0 m_1 m_2 w_0 w_1 w_2 (fun r0 => k_ (.bool r0) [])
  | _ => false
abbrev F_binnaclelaw16_RootUpdates (S_binnaclelaw16_RootUpdates : TS_binnaclelaw16_RootUpdates) : Fs := mkFs shF_binnaclelaw16_RootUpdates (sp_binnaclelaw16_RootUpdates S_binnaclelaw16_RootUpdates)

def shF_math_Abs_2 : FnSh := ⟨[.flt], []⟩
def sp_math_Abs_2 (S_math_Abs_2 : TS_math_Abs_2) : List Atom → (V → List Blk → Bool) → Bool := fun a_ k_ => match a_ with
  | [.fl x] => S_math_Abs_2 x (fun r0 => k_ (.flt r0) [])
  | _ => false
abbrev F_math_Abs_2 (S_math_Abs_2 : TS_math_Abs_2) : Fs := mkFs shF_math_Abs_2 (sp_math_Abs_2 S_math_Abs_2)

def shF_math_IsInf : FnSh := ⟨[.flt, .int .i64], []⟩
def sp_math_IsInf (S_math_IsInf : TS_math_IsInf) : List Atom → (V → List Blk → Bool) → Bool := fun a_ k_ => match a_ with
  | [.fl f, .int sign] => S_math_IsInf f sign (fun r0 => k_ (.bool r0) [])
  | _ => false
abbrev F_math_IsInf (S_math_IsInf : TS_math_IsInf) : Fs := mkFs shF_math_IsInf (sp_math_IsInf S_math_IsInf)

def shF_binnaclelaw16_RootBlind : FnSh := ⟨[.roi .u64, .agg [.int .i64, .int .i64, .roi .u64], .int .u64, .int .u64], []⟩
def sp_binnaclelaw16_RootBlind (S_binnaclelaw16_RootBlind : TS_binnaclelaw16_RootBlind) : List Atom → (V → List Blk → Bool) → Bool := fun a_ k_ => match a_ with
  | [.ints x, .int m_0, .int m_1, .ints m_2, .int r, .int z] => S_binnaclelaw16_RootBlind x m_0 m_1 m_2 r z (fun r0 => k_ (.bool r0) [])
  | _ => false
abbrev F_binnaclelaw16_RootBlind (S_binnaclelaw16_RootBlind : TS_binnaclelaw16_RootBlind) : Fs := mkFs shF_binnaclelaw16_RootBlind (sp_binnaclelaw16_RootBlind S_binnaclelaw16_RootBlind)

end Go.Proofs.Ytoagmokejfcpbaa
