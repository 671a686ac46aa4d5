/-
  THE MEANINGS, as specifications (written by program).
  Conditions: none.
-/
import Derived.Test.YtldpkhfffeddiaaGreatGp
import Derived.Test.YtldpkhfffeddiaaGreatMachZ
import Derived.Test.YtldpkhfffeddiaaGreatProg
namespace Go.Proofs.YtldpkhfffeddiaaGreat
open Go Go.Mach Go.Proofs
set_option linter.unusedVariables false
set_option maxRecDepth 50000

def isref : Nat → Bool := fun g => g == 95 || g == 103 || g == 51 || g == 140 || g == 226 || g == 212 || g == 29 || g == 1000235 || g == 1000236

def shF_q78 : FnSh := ⟨[.fb], []⟩
def sp_q78 (S_q78 : TS_q78) : List Atom → (V → List Blk → Bool) → Bool := fun a_ cont_ => match a_ with
  | [.nat a0] => S_q78 a0 (fun r0 => cont_ (.int .u64 r0) [])
  | _ => false
abbrev F_q78 (S_q78 : TS_q78) : Fs := mkFs shF_q78 (sp_q78 S_q78)

def shF_an_of : FnSh := ⟨[.litI .i64 0], []⟩
def sp_an_of (S_an_of : TS_an_of) : List Atom → (V → List Blk → Bool) → Bool := fun a_ cont_ => match a_ with
  | [] => S_an_of (fun r0 r1 r2 => cont_ (.agg [.int .u64 r0, .int .i64 r1, .int .i64 r2]) [])
  | _ => false
abbrev F_an_of (S_an_of : TS_an_of) : Fs := mkFs shF_an_of (sp_an_of S_an_of)

def shF_q103 : FnSh := ⟨[.agg [.int .u64, .int .i64, .int .i64]], []⟩
def sp_q103 (S_q103 : TS_q103) : List Atom → (V → List Blk → Bool) → Bool := fun a_ cont_ => match a_ with
  | [.int f_0, .int f_1, .int f_2] => S_q103 f_0 f_1 f_2 (fun r0 => cont_ (.int .u64 r0) [])
  | _ => false
abbrev F_q103 (S_q103 : TS_q103) : Fs := mkFs shF_q103 (sp_q103 S_q103)

def shF_q46 : FnSh := ⟨[.agg [.int .u64, .int .i64, .int .i64]], []⟩
def sp_q46 (S_q46 : TS_q46) : List Atom → (V → List Blk → Bool) → Bool := fun a_ cont_ => match a_ with
  | [.int f_0, .int f_1, .int f_2] => S_q46 f_0 f_1 f_2 (fun r0 => cont_ (.int .u64 r0) [])
  | _ => false
abbrev F_q46 (S_q46 : TS_q46) : Fs := mkFs shF_q46 (sp_q46 S_q46)

def shF_q42 : FnSh := ⟨[.int .u64, .agg [.int .u64, .int .i64, .int .i64]], []⟩
def sp_q42 (S_q42 : TS_q42) : List Atom → (V → List Blk → Bool) → Bool := fun a_ cont_ => match a_ with
  | [.int b, .int f_0, .int f_1, .int f_2] => S_q42 b f_0 f_1 f_2 (fun r0 => cont_ (.bool r0) [])
  | _ => false
abbrev F_q42 (S_q42 : TS_q42) : Fs := mkFs shF_q42 (sp_q42 S_q42)

def shF_q71 : FnSh := ⟨[.agg [.int .u64, .int .i64, .int .i64]], []⟩
def sp_q71 (S_q71 : TS_q71) : List Atom → (V → List Blk → Bool) → Bool := fun a_ cont_ => match a_ with
  | [.int f_0, .int f_1, .int f_2] => S_q71 f_0 f_1 f_2 (fun r0 => cont_ (.int .u64 r0) [])
  | _ => false
abbrev F_q71 (S_q71 : TS_q71) : Fs := mkFs shF_q71 (sp_q71 S_q71)

def shF_q114 : FnSh := ⟨[.agg [.int .u64, .int .i64, .int .i64]], []⟩
def sp_q114 (S_q114 : TS_q114) : List Atom → (V → List Blk → Bool) → Bool := fun a_ cont_ => match a_ with
  | [.int f_0, .int f_1, .int f_2] => S_q114 f_0 f_1 f_2 (fun r0 => cont_ (.int .u64 r0) [])
  | _ => false
abbrev F_q114 (S_q114 : TS_q114) : Fs := mkFs shF_q114 (sp_q114 S_q114)

def shF_q12 : FnSh := ⟨[.int .u64, .agg [.int .u64, .int .i64, .int .i64]], []⟩
def sp_q12 (S_q12 : TS_q12) : List Atom → (V → List Blk → Bool) → Bool := fun a_ cont_ => match a_ with
  | [.int b, .int f_0, .int f_1, .int f_2] => S_q12 b f_0 f_1 f_2 (fun r0 => cont_ (.int .u64 r0) [])
  | _ => false
abbrev F_q12 (S_q12 : TS_q12) : Fs := mkFs shF_q12 (sp_q12 S_q12)

def shF_q28 : FnSh := ⟨[.int .u64, .agg [.int .u64, .int .i64, .int .i64]], []⟩
def sp_q28 (S_q28 : TS_q28) : List Atom → (V → List Blk → Bool) → Bool := fun a_ cont_ => match a_ with
  | [.int b, .int f_0, .int f_1, .int f_2] => S_q28 b f_0 f_1 f_2 (fun r0 r1 r2 => cont_ (.tup [.bool r0, .int .i64 r1, .int .u64 r2]) [])
  | _ => false
abbrev F_q28 (S_q28 : TS_q28) : Fs := mkFs shF_q28 (sp_q28 S_q28)

def shF_q27 : FnSh := ⟨[.int .u64, .agg [.int .u64, .int .i64, .int .i64]], []⟩
def sp_q27 (S_q27 : TS_q27) : List Atom → (V → List Blk → Bool) → Bool := fun a_ cont_ => match a_ with
  | [.int b, .int f_0, .int f_1, .int f_2] => S_q27 b f_0 f_1 f_2 (fun r0 => cont_ (.int .i64 r0) [])
  | _ => false
abbrev F_q27 (S_q27 : TS_q27) : Fs := mkFs shF_q27 (sp_q27 S_q27)

def shF_q106 : FnSh := ⟨[.fb], []⟩
def sp_q106 (S_q106 : TS_q106) : List Atom → (V → List Blk → Bool) → Bool := fun a_ cont_ => match a_ with
  | [.nat x] => S_q106 x (fun r0 => cont_ (.int .i64 r0) [])
  | _ => false
abbrev F_q106 (S_q106 : TS_q106) : Fs := mkFs shF_q106 (sp_q106 S_q106)

def shF_q113 : FnSh := ⟨[.fb, .fb], []⟩
def sp_q113 (S_q113 : TS_q113) : List Atom → (V → List Blk → Bool) → Bool := fun a_ cont_ => match a_ with
  | [.nat a, .nat b] => S_q113 a b (fun r0 => cont_ (.bool r0) [])
  | _ => false
abbrev F_q113 (S_q113 : TS_q113) : Fs := mkFs shF_q113 (sp_q113 S_q113)

def shF_q39 : FnSh := ⟨[.int .u64], []⟩
def sp_q39 (S_q39 : TS_q39) : List Atom → (V → List Blk → Bool) → Bool := fun a_ cont_ => match a_ with
  | [.int a0] => S_q39 a0 (fun r0 => cont_ (.flt r0) [])
  | _ => false
abbrev F_q39 (S_q39 : TS_q39) : Fs := mkFs shF_q39 (sp_q39 S_q39)

def shF_q120 : FnSh := ⟨[.fb], []⟩
def sp_q120 (S_q120 : TS_q120) : List Atom → (V → List Blk → Bool) → Bool := fun a_ cont_ => match a_ with
  | [.nat x] => S_q120 x (fun r0 => cont_ (.flt r0) [])
  | _ => false
abbrev F_q120 (S_q120 : TS_q120) : Fs := mkFs shF_q120 (sp_q120 S_q120)

def shF_zl_f : FnSh := ⟨[.int .u64], []⟩
def sp_zl_f (S_zl_f : TS_zl_f) : List Atom → (V → List Blk → Bool) → Bool := fun a_ cont_ => match a_ with
  | [.int b] => S_zl_f b (fun r0 => cont_ (.flt r0) [])
  | _ => false
abbrev F_zl_f (S_zl_f : TS_zl_f) : Fs := mkFs shF_zl_f (sp_zl_f S_zl_f)

def shF_q117 : FnSh := ⟨[.agg [.int .u64, .int .u64, .int .u64]], []⟩
def sp_q117 (S_q117 : TS_q117) : List Atom → (V → List Blk → Bool) → Bool := fun a_ cont_ => match a_ with
  | [.int b_0, .int b_1, .int b_2] => S_q117 b_0 b_1 b_2 (fun r0 r1 r2 => cont_ (.agg [.flt r0, .flt r1, .flt r2]) [])
  | _ => false
abbrev F_q117 (S_q117 : TS_q117) : Fs := mkFs shF_q117 (sp_q117 S_q117)

def shF_q88 : FnSh := ⟨[.flt], []⟩
def sp_q88 (S_q88 : TS_q88) : List Atom → (V → List Blk → Bool) → Bool := fun a_ cont_ => match a_ with
  | [.fl x] => S_q88 x (fun r0 => cont_ (.int .i64 r0) [])
  | _ => false
abbrev F_q88 (S_q88 : TS_q88) : Fs := mkFs shF_q88 (sp_q88 S_q88)

def shF_q14 : FnSh := ⟨[.rof], []⟩
def sp_q14 (S_q14 : TS_q14) : List Atom → (V → List Blk → Bool) → Bool := fun a_ cont_ => match a_ with
  | [.fls l] => S_q14 l (fun r0 => cont_ (.bool r0) [])
  | _ => false
abbrev F_q14 (S_q14 : TS_q14) : Fs := mkFs shF_q14 (sp_q14 S_q14)

def shF_q26 : FnSh := ⟨[.agg [.flt, .flt, .flt]], []⟩
def sp_q26 (S_q26 : TS_q26) : List Atom → (V → List Blk → Bool) → Bool := fun a_ cont_ => match a_ with
  | [.fl v_0, .fl v_1, .fl v_2] => S_q26 v_0 v_1 v_2 (fun r0 => cont_ (.int .i64 r0) [])
  | _ => false
abbrev F_q26 (S_q26 : TS_q26) : Fs := mkFs shF_q26 (sp_q26 S_q26)

def shF_qr_list : FnSh := ⟨[.rof], []⟩
def sp_qr_list (S_qr_list : TS_qr_list) : List Atom → (V → List Blk → Bool) → Bool := fun a_ cont_ => match a_ with
  | [.fls x] => S_qr_list x (fun r0 => cont_ (.int .i64 r0) [])
  | _ => false
abbrev F_qr_list (S_qr_list : TS_qr_list) : Fs := mkFs shF_qr_list (sp_qr_list S_qr_list)

def shF_m_Abs : FnSh := ⟨[.flt], []⟩
def sp_m_Abs (S_m_Abs : TS_m_Abs) : List Atom → (V → List Blk → Bool) → Bool := fun a_ cont_ => match a_ with
  | [.fl x] => S_m_Abs x (fun r0 => cont_ (.flt r0) [])
  | _ => false
abbrev F_m_Abs (S_m_Abs : TS_m_Abs) : Fs := mkFs shF_m_Abs (sp_m_Abs S_m_Abs)

def shF_q64 : FnSh := ⟨[.flt, .int .i64], []⟩
def sp_q64 (S_q64 : TS_q64) : List Atom → (V → List Blk → Bool) → Bool := fun a_ cont_ => match a_ with
  | [.fl f, .int sign] => S_q64 f sign (fun r0 => cont_ (.bool r0) [])
  | _ => false
abbrev F_q64 (S_q64 : TS_q64) : Fs := mkFs shF_q64 (sp_q64 S_q64)

def shF_q84 : FnSh := ⟨[.flt], []⟩
def sp_q84 (S_q84 : TS_q84) : List Atom → (V → List Blk → Bool) → Bool := fun a_ cont_ => match a_ with
  | [.fl f] => S_q84 f (fun r0 => cont_ (.bool r0) [])
  | _ => false
abbrev F_q84 (S_q84 : TS_q84) : Fs := mkFs shF_q84 (sp_q84 S_q84)

def shF_q22 : FnSh := ⟨[.flt], []⟩
def sp_q22 (S_q22 : TS_q22) : List Atom → (V → List Blk → Bool) → Bool := fun a_ cont_ => match a_ with
  | [.fl x] => S_q22 x (fun r0 r1 => cont_ (.tup [.flt r0, .int .i64 r1]) [])
  | _ => false
abbrev F_q22 (S_q22 : TS_q22) : Fs := mkFs shF_q22 (sp_q22 S_q22)

def shF_q48 : FnSh := ⟨[.flt], []⟩
def sp_q48 (S_q48 : TS_q48) : List Atom → (V → List Blk → Bool) → Bool := fun a_ cont_ => match a_ with
  | [.fl a0] => S_q48 a0 (fun r0 => cont_ (.int .u64 r0) [])
  | _ => false
abbrev F_q48 (S_q48 : TS_q48) : Fs := mkFs shF_q48 (sp_q48 S_q48)

def shF_q115 : FnSh := ⟨[.flt], []⟩
def sp_q115 (S_q115 : TS_q115) : List Atom → (V → List Blk → Bool) → Bool := fun a_ cont_ => match a_ with
  | [.fl f] => S_q115 f (fun r0 r1 => cont_ (.tup [.flt r0, .int .i64 r1]) [])
  | _ => false
abbrev F_q115 (S_q115 : TS_q115) : Fs := mkFs shF_q115 (sp_q115 S_q115)

def shF_q41 : FnSh := ⟨[.flt], []⟩
def sp_q41 (S_q41 : TS_q41) : List Atom → (V → List Blk → Bool) → Bool := fun a_ cont_ => match a_ with
  | [.fl f] => S_q41 f (fun r0 r1 => cont_ (.tup [.flt r0, .int .i64 r1]) [])
  | _ => false
abbrev F_q41 (S_q41 : TS_q41) : Fs := mkFs shF_q41 (sp_q41 S_q41)

def shF_qr_power : FnSh := ⟨[.rof], []⟩
def sp_qr_power (S_qr_power : TS_qr_power) : List Atom → (V → List Blk → Bool) → Bool := fun a_ cont_ => match a_ with
  | [.fls x] => S_qr_power x (fun r0 r1 => cont_ (.tup [.int .i64 r0, .bool r1]) [])
  | _ => false
abbrev F_qr_power (S_qr_power : TS_qr_power) : Fs := mkFs shF_qr_power (sp_qr_power S_qr_power)

def shF_q58 : FnSh := ⟨[.flt, .flt], []⟩
def sp_q58 (S_q58 : TS_q58) : List Atom → (V → List Blk → Bool) → Bool := fun a_ cont_ => match a_ with
  | [.fl f, .fl sign] => S_q58 f sign (fun r0 => cont_ (.flt r0) [])
  | _ => false
abbrev F_q58 (S_q58 : TS_q58) : Fs := mkFs shF_q58 (sp_q58 S_q58)

def shF_m_Inf : FnSh := ⟨[.int .i64], []⟩
def sp_m_Inf (S_m_Inf : TS_m_Inf) : List Atom → (V → List Blk → Bool) → Bool := fun a_ cont_ => match a_ with
  | [.int sign] => S_m_Inf sign (fun r0 => cont_ (.flt r0) [])
  | _ => false
abbrev F_m_Inf (S_m_Inf : TS_m_Inf) : Fs := mkFs shF_m_Inf (sp_m_Inf S_m_Inf)

def shF_q112 : FnSh := ⟨[.flt, .int .i64], []⟩
def sp_q112 (S_q112 : TS_q112) : List Atom → (V → List Blk → Bool) → Bool := fun a_ cont_ => match a_ with
  | [.fl frac, .int exp] => S_q112 frac exp (fun r0 => cont_ (.flt r0) [])
  | _ => false
abbrev F_q112 (S_q112 : TS_q112) : Fs := mkFs shF_q112 (sp_q112 S_q112)

def shF_q59 : FnSh := ⟨[.flt, .int .i64], []⟩
def sp_q59 (S_q59 : TS_q59) : List Atom → (V → List Blk → Bool) → Bool := fun a_ cont_ => match a_ with
  | [.fl frac, .int exp] => S_q59 frac exp (fun r0 => cont_ (.flt r0) [])
  | _ => false
abbrev F_q59 (S_q59 : TS_q59) : Fs := mkFs shF_q59 (sp_q59 S_q59)

def shF_q123 : FnSh := ⟨[.flt], []⟩
def sp_q123 (S_q123 : TS_q123) : List Atom → (V → List Blk → Bool) → Bool := fun a_ cont_ => match a_ with
  | [.fl a0] => S_q123 a0 (fun r0 => cont_ (.flt r0) [])
  | _ => false
abbrev F_q123 (S_q123 : TS_q123) : Fs := mkFs shF_q123 (sp_q123 S_q123)

def shF_q61 : FnSh := ⟨[.flt], []⟩
def sp_q61 (S_q61 : TS_q61) : List Atom → (V → List Blk → Bool) → Bool := fun a_ cont_ => match a_ with
  | [.fl x] => S_q61 x (fun r0 => cont_ (.flt r0) [])
  | _ => false
abbrev F_q61 (S_q61 : TS_q61) : Fs := mkFs shF_q61 (sp_q61 S_q61)

def shF_qr_scaled : FnSh := ⟨[.rof, .int .i64], []⟩
def sp_qr_scaled (S_qr_scaled : TS_qr_scaled) : List Atom → (V → List Blk → Bool) → Bool := fun a_ cont_ => match a_ with
  | [.fls x, .int k_] => S_qr_scaled x k_ (fun r0 r1 => cont_ (.tup [.slw 0, .flt r0]) [⟨24, 1, .flts r1⟩])
  | _ => false
abbrev F_qr_scaled (S_qr_scaled : TS_qr_scaled) : Fs := mkFs shF_qr_scaled (sp_qr_scaled S_qr_scaled)

def shF_qr_length : FnSh := ⟨[.rof], []⟩
def sp_qr_length (S_qr_length : TS_qr_length) : List Atom → (V → List Blk → Bool) → Bool := fun a_ cont_ => match a_ with
  | [.fls x] => S_qr_length x (fun r0 => cont_ (.flt r0) [])
  | _ => false
abbrev F_qr_length (S_qr_length : TS_qr_length) : Fs := mkFs shF_qr_length (sp_qr_length S_qr_length)

def shF_qr_finite : FnSh := ⟨[.flt], []⟩
def sp_qr_finite (S_qr_finite : TS_qr_finite) : List Atom → (V → List Blk → Bool) → Bool := fun a_ cont_ => match a_ with
  | [.fl x] => S_qr_finite x (fun r0 => cont_ (.bool r0) [])
  | _ => false
abbrev F_qr_finite (S_qr_finite : TS_qr_finite) : Fs := mkFs shF_qr_finite (sp_qr_finite S_qr_finite)

def shF_qr_Length : FnSh := ⟨[.rof], []⟩
def sp_qr_Length (S_qr_Length : TS_qr_Length) : List Atom → (V → List Blk → Bool) → Bool := fun a_ cont_ => match a_ with
  | [.fls x] => S_qr_Length x (fun r0 r1 => cont_ (.tup [.flt r0, .int .i64 r1]) [])
  | _ => false
abbrev F_qr_Length (S_qr_Length : TS_qr_Length) : Fs := mkFs shF_qr_Length (sp_qr_Length S_qr_Length)

def shF_q57 : FnSh := ⟨[.agg [.flt, .flt, .flt]], []⟩
def sp_q57 (S_q57 : TS_q57) : List Atom → (V → List Blk → Bool) → Bool := fun a_ cont_ => match a_ with
  | [.fl v_0, .fl v_1, .fl v_2] => S_q57 v_0 v_1 v_2 (fun r0 r1 r2 r3 => cont_ (.tup [.agg [.flt r0, .flt r1, .flt r2], .int .i64 r3]) [])
  | _ => false
abbrev F_q57 (S_q57 : TS_q57) : Fs := mkFs shF_q57 (sp_q57 S_q57)

def shF_quat_finite : FnSh := ⟨[.rof], []⟩
def sp_quat_finite (S_quat_finite : TS_quat_finite) : List Atom → (V → List Blk → Bool) → Bool := fun a_ cont_ => match a_ with
  | [.fls l] => S_quat_finite l (fun r0 => cont_ (.bool r0) [])
  | _ => false
abbrev F_quat_finite (S_quat_finite : TS_quat_finite) : Fs := mkFs shF_quat_finite (sp_quat_finite S_quat_finite)

def shF_quat_cross : FnSh := ⟨[.agg [.flt, .flt, .flt], .agg [.flt, .flt, .flt]], []⟩
def sp_quat_cross (S_quat_cross : TS_quat_cross) : List Atom → (V → List Blk → Bool) → Bool := fun a_ cont_ => match a_ with
  | [.fl a_0, .fl a_1, .fl a_2, .fl b_0, .fl b_1, .fl b_2] => S_quat_cross a_0 a_1 a_2 b_0 b_1 b_2 (fun r0 r1 r2 => cont_ (.agg [.flt r0, .flt r1, .flt r2]) [])
  | _ => false
abbrev F_quat_cross (S_quat_cross : TS_quat_cross) : Fs := mkFs shF_quat_cross (sp_quat_cross S_quat_cross)

def shF_quat_vec : FnSh := ⟨[.agg [.flt, .flt, .flt]], []⟩
def sp_quat_vec (S_quat_vec : TS_quat_vec) : List Atom → (V → List Blk → Bool) → Bool := fun a_ cont_ => match a_ with
  | [.fl v_0, .fl v_1, .fl v_2] => S_quat_vec v_0 v_1 v_2 (fun r0 r1 r2 r3 => cont_ (.tup [.agg [.flt r0, .flt r1, .flt r2], .int .i64 r3]) [])
  | _ => false
abbrev F_quat_vec (S_quat_vec : TS_quat_vec) : Fs := mkFs shF_quat_vec (sp_quat_vec S_quat_vec)

def shF_quat_Cross : FnSh := ⟨[.agg [.flt, .flt, .flt], .agg [.flt, .flt, .flt]], []⟩
def sp_quat_Cross (S_quat_Cross : TS_quat_Cross) : List Atom → (V → List Blk → Bool) → Bool := fun a_ cont_ => match a_ with
  | [.fl a_0, .fl a_1, .fl a_2, .fl b_0, .fl b_1, .fl b_2] => S_quat_Cross a_0 a_1 a_2 b_0 b_1 b_2 (fun r0 r1 r2 r3 => cont_ (.tup [.agg [.flt r0, .flt r1, .flt r2], .int .i64 r3]) [])
  | _ => false
abbrev F_quat_Cross (S_quat_Cross : TS_quat_Cross) : Fs := mkFs shF_quat_Cross (sp_quat_Cross S_quat_Cross)

def shF_q111 : FnSh := ⟨[.agg [.flt, .flt, .flt], .agg [.flt, .flt, .flt]], []⟩
def sp_q111 (S_q111 : TS_q111) : List Atom → (V → List Blk → Bool) → Bool := fun a_ cont_ => match a_ with
  | [.fl a_0, .fl a_1, .fl a_2, .fl b_0, .fl b_1, .fl b_2] => S_q111 a_0 a_1 a_2 b_0 b_1 b_2 (fun r0 r1 r2 r3 r4 r5 r6 r7 r8 r9 => cont_ (.tup [.agg [.flt r0, .flt r1, .flt r2, .flt r3, .flt r4, .flt r5, .flt r6, .flt r7, .flt r8], .int .i64 r9]) [])
  | _ => false
abbrev F_q111 (S_q111 : TS_q111) : Fs := mkFs shF_q111 (sp_q111 S_q111)

def shF_q52 : FnSh := ⟨[.ptr 0 0, .flt], [some (66, 1, .cells [.bool])]⟩
def sp_q52 (S_q52 : TS_q52) : List Atom → (V → List Blk → Bool) → Bool := fun a_ cont_ => match a_ with
  | [.fl x, .bool b] => S_q52 x b (fun r1 => cont_ (.flt x) [⟨66, 1, .cells [.bool r1]⟩])
  | _ => false
abbrev F_q52 (S_q52 : TS_q52) : Fs := mkFs shF_q52 (sp_q52 S_q52)

def shF_q36 : FnSh := ⟨[.ptr 0 0, .flt, .flt], [some (66, 1, .cells [.bool])]⟩
def sp_q36 (S_q36 : TS_q36) : List Atom → (V → List Blk → Bool) → Bool := fun a_ cont_ => match a_ with
  | [.fl a, .fl b, .bool b_1] => S_q36 a b b_1 (fun r0 r1 => cont_ (.flt r0) [⟨66, 1, .cells [.bool r1]⟩])
  | _ => false
abbrev F_q36 (S_q36 : TS_q36) : Fs := mkFs shF_q36 (sp_q36 S_q36)

def shF_q81 : FnSh := ⟨[.ptr 0 0], [some (66, 1, .cells [.bool])]⟩
def sp_q81 (S_q81 : TS_q81) : List Atom → (V → List Blk → Bool) → Bool := fun a_ cont_ => match a_ with
  | [.bool b] => S_q81 b (cont_ (.bool b) [⟨66, 1, .cells [.bool b]⟩])
  | _ => false
abbrev F_q81 (S_q81 : TS_q81) : Fs := mkFs shF_q81 (sp_q81 S_q81)

def shF_matrix_size : FnSh := ⟨[.int .i64], []⟩
def sp_matrix_size (S_matrix_size : TS_matrix_size) : List Atom → (V → List Blk → Bool) → Bool := fun a_ cont_ => match a_ with
  | [.int n] => S_matrix_size n (fun r0 => cont_ (.bool r0) [])
  | _ => false
abbrev F_matrix_size (S_matrix_size : TS_matrix_size) : Fs := mkFs shF_matrix_size (sp_matrix_size S_matrix_size)

def shF_matrix_Check : FnSh := ⟨[.agg [.int .i64, .int .i64, .rof]], []⟩
def sp_matrix_Check (S_matrix_Check : TS_matrix_Check) : List Atom → (V → List Blk → Bool) → Bool := fun a_ cont_ => match a_ with
  | [.int m_0, .int m_1, .fls m_2] => S_matrix_Check m_0 m_1 m_2 (fun r0 => cont_ (.int .i64 r0) [])
  | _ => false
abbrev F_matrix_Check (S_matrix_Check : TS_matrix_Check) : Fs := mkFs shF_matrix_Check (sp_matrix_Check S_matrix_Check)

def shF_quat_From_1_p0r : FnSh := ⟨[.int .i64, .int .i64, .ptr 0 0], [some (46, 1, .cells [.int .i64, .int .i64, .rof])]⟩
def sp_quat_From_1_p0r (S_quat_From_1_p0r : TS_quat_From_1_p0r) : List Atom → (V → List Blk → Bool) → Bool := fun a_ cont_ => match a_ with
  | [.int i, .int j, .int b, .int b_1, .fls b_2] => S_quat_From_1_p0r i j b b_1 b_2 (fun r0 => cont_ (.flt r0) [⟨46, 1, .cells [.int .i64 b, .int .i64 b_1, .rof b_2]⟩])
  | _ => false
abbrev F_quat_From_1_p0r (S_quat_From_1_p0r : TS_quat_From_1_p0r) : Fs := mkFs shF_quat_From_1_p0r (sp_quat_From_1_p0r S_quat_From_1_p0r)

def shF_quat_good_o1 : FnSh := ⟨[.ro 4 [.flt, .flt, .flt, .flt]], []⟩
def sp_quat_good_o1 (S_quat_good_o1 : TS_quat_good_o1) : List Atom → (V → List Blk → Bool) → Bool := fun a_ cont_ => match a_ with
  | [.fl qs_0, .fl qs_1, .fl qs_2, .fl qs_3] => S_quat_good_o1 qs_0 qs_1 qs_2 qs_3 (fun r0 => cont_ (.bool r0) [])
  | _ => false
abbrev F_quat_good_o1 (S_quat_good_o1 : TS_quat_good_o1) : Fs := mkFs shF_quat_good_o1 (sp_quat_good_o1 S_quat_good_o1)

def shF_quat_told : FnSh := ⟨[.agg [.flt, .flt, .flt, .flt]], []⟩
def sp_quat_told (S_quat_told : TS_quat_told) : List Atom → (V → List Blk → Bool) → Bool := fun a_ cont_ => match a_ with
  | [.fl q_0, .fl q_1, .fl q_2, .fl q_3] => S_quat_told q_0 q_1 q_2 q_3 (fun r0 r1 r2 r3 r4 => cont_ (.tup [.agg [.flt r0, .flt r1, .flt r2, .flt r3], .int .i64 r4]) [])
  | _ => false
abbrev F_quat_told (S_quat_told : TS_quat_told) : Fs := mkFs shF_quat_told (sp_quat_told S_quat_told)

def shF_quat_four : FnSh := ⟨[.agg [.flt, .flt, .flt, .flt]], []⟩
def sp_quat_four (S_quat_four : TS_quat_four) : List Atom → (V → List Blk → Bool) → Bool := fun a_ cont_ => match a_ with
  | [.fl q_0, .fl q_1, .fl q_2, .fl q_3] => S_quat_four q_0 q_1 q_2 q_3 (cont_ (.agg [.flt q_0, .flt q_1, .flt q_2, .flt q_3]) [])
  | _ => false
abbrev F_quat_four (S_quat_four : TS_quat_four) : Fs := mkFs shF_quat_four (sp_quat_four S_quat_four)

def shF_quat_quat : FnSh := ⟨[.agg [.flt, .flt, .flt, .flt]], []⟩
def sp_quat_quat (S_quat_quat : TS_quat_quat) : List Atom → (V → List Blk → Bool) → Bool := fun a_ cont_ => match a_ with
  | [.fl l_0, .fl l_1, .fl l_2, .fl l_3] => S_quat_quat l_0 l_1 l_2 l_3 (cont_ (.agg [.flt l_0, .flt l_1, .flt l_2, .flt l_3]) [])
  | _ => false
abbrev F_quat_quat (S_quat_quat : TS_quat_quat) : Fs := mkFs shF_quat_quat (sp_quat_quat S_quat_quat)

def shF_quat_Unit : FnSh := ⟨[.agg [.flt, .flt, .flt, .flt]], []⟩
def sp_quat_Unit (S_quat_Unit : TS_quat_Unit) : List Atom → (V → List Blk → Bool) → Bool := fun a_ cont_ => match a_ with
  | [.fl q_0, .fl q_1, .fl q_2, .fl q_3] => S_quat_Unit q_0 q_1 q_2 q_3 (fun r0 r1 r2 r3 r4 => cont_ (.tup [.agg [.flt r0, .flt r1, .flt r2, .flt r3], .int .i64 r4]) [])
  | _ => false
abbrev F_quat_Unit (S_quat_Unit : TS_quat_Unit) : Fs := mkFs shF_quat_Unit (sp_quat_Unit S_quat_Unit)

def shF_quat_From : FnSh := ⟨[.agg [.int .i64, .int .i64, .rof]], []⟩
def sp_quat_From (S_quat_From : TS_quat_From) : List Atom → (V → List Blk → Bool) → Bool := fun a_ cont_ => match a_ with
  | [.int m_0, .int m_1, .fls m_2] => S_quat_From m_0 m_1 m_2 (fun r0 r1 r2 r3 r4 => cont_ (.tup [.agg [.flt r0, .flt r1, .flt r2, .flt r3], .int .i64 r4]) [])
  | _ => false
abbrev F_quat_From (S_quat_From : TS_quat_From) : Fs := mkFs shF_quat_From (sp_quat_From S_quat_From)

def shF_q80 : FnSh := ⟨[.agg [.flt, .flt, .flt], .agg [.flt, .flt, .flt], .agg [.flt, .flt, .flt], .agg [.flt, .flt, .flt]], []⟩
def sp_q80 (S_q80 : TS_q80) : List Atom → (V → List Blk → Bool) → Bool := fun a_ cont_ => match a_ with
  | [.fl a_0, .fl a_1, .fl a_2, .fl b_0, .fl b_1, .fl b_2, .fl seenA_0, .fl seenA_1, .fl seenA_2, .fl seenB_0, .fl seenB_1, .fl seenB_2] => S_q80 a_0 a_1 a_2 b_0 b_1 b_2 seenA_0 seenA_1 seenA_2 seenB_0 seenB_1 seenB_2 (fun r0 r1 r2 r3 r4 => cont_ (.tup [.agg [.flt r0, .flt r1, .flt r2, .flt r3], .int .i64 r4]) [])
  | _ => false
abbrev F_q80 (S_q80 : TS_q80) : Fs := mkFs shF_q80 (sp_q80 S_q80)

def shF_q108 : FnSh := ⟨[.flt], []⟩
def sp_q108 (S_q108 : TS_q108) : List Atom → (V → List Blk → Bool) → Bool := fun a_ cont_ => match a_ with
  | [.fl x] => S_q108 x (fun r0 => cont_ (.int .u64 r0) [])
  | _ => false
abbrev F_q108 (S_q108 : TS_q108) : Fs := mkFs shF_q108 (sp_q108 S_q108)

def shF_q93 : FnSh := ⟨[.flt], []⟩
def sp_q93 (S_q93 : TS_q93) : List Atom → (V → List Blk → Bool) → Bool := fun a_ cont_ => match a_ with
  | [.fl x] => S_q93 x (fun r0 r1 r2 => cont_ (.tup [.bool r0, .int .i64 r1, .int .u64 r2]) [])
  | _ => false
abbrev F_q93 (S_q93 : TS_q93) : Fs := mkFs shF_q93 (sp_q93 S_q93)

def shF_q67 : FnSh := ⟨[.int .i64, .int .u64, .int .i64], []⟩
def sp_q67 (S_q67 : TS_q67) : List Atom → (V → List Blk → Bool) → Bool := fun a_ cont_ => match a_ with
  | [.int exp, .int frac, .int most] => S_q67 exp frac most (fun r0 => cont_ (.int .i64 r0) [])
  | _ => false
abbrev F_q67 (S_q67 : TS_q67) : Fs := mkFs shF_q67 (sp_q67 S_q67)

def shF_q92 : FnSh := ⟨[.flt], []⟩
def sp_q92 (S_q92 : TS_q92) : List Atom → (V → List Blk → Bool) → Bool := fun a_ cont_ => match a_ with
  | [.fl x] => S_q92 x (fun r0 => cont_ (.int .i64 r0) [])
  | _ => false
abbrev F_q92 (S_q92 : TS_q92) : Fs := mkFs shF_q92 (sp_q92 S_q92)

def shF_q9 : FnSh := ⟨[.flt], []⟩
def sp_q9 (S_q9 : TS_q9) : List Atom → (V → List Blk → Bool) → Bool := fun a_ cont_ => match a_ with
  | [.fl x] => S_q9 x (fun r0 => cont_ (.bool r0) [])
  | _ => false
abbrev F_q9 (S_q9 : TS_q9) : Fs := mkFs shF_q9 (sp_q9 S_q9)

def shF_q11 : FnSh := ⟨[.rof], []⟩
def sp_q11 (S_q11 : TS_q11) : List Atom → (V → List Blk → Bool) → Bool := fun a_ cont_ => match a_ with
  | [.fls l] => S_q11 l (fun r0 => cont_ (.bool r0) [])
  | _ => false
abbrev F_q11 (S_q11 : TS_q11) : Fs := mkFs shF_q11 (sp_q11 S_q11)

def shF_q15 : FnSh := ⟨[.agg [.flt, .flt, .flt]], []⟩
def sp_q15 (S_q15 : TS_q15) : List Atom → (V → List Blk → Bool) → Bool := fun a_ cont_ => match a_ with
  | [.fl v_0, .fl v_1, .fl v_2] => S_q15 v_0 v_1 v_2 (fun r0 => cont_ (.bool r0) [])
  | _ => false
abbrev F_q15 (S_q15 : TS_q15) : Fs := mkFs shF_q15 (sp_q15 S_q15)

def shF_q21 : FnSh := ⟨[.agg [.flt, .flt, .flt]], []⟩
def sp_q21 (S_q21 : TS_q21) : List Atom → (V → List Blk → Bool) → Bool := fun a_ cont_ => match a_ with
  | [.fl v_0, .fl v_1, .fl v_2] => S_q21 v_0 v_1 v_2 (fun r0 => cont_ (.int .i64 r0) [])
  | _ => false
abbrev F_q21 (S_q21 : TS_q21) : Fs := mkFs shF_q21 (sp_q21 S_q21)

def shF_q107 : FnSh := ⟨[.rof], []⟩
def sp_q107 (S_q107 : TS_q107) : List Atom → (V → List Blk → Bool) → Bool := fun a_ cont_ => match a_ with
  | [.fls x] => S_q107 x (fun r0 => cont_ (.int .i64 r0) [])
  | _ => false
abbrev F_q107 (S_q107 : TS_q107) : Fs := mkFs shF_q107 (sp_q107 S_q107)

def shF_q65 : FnSh := ⟨[.rof], []⟩
def sp_q65 (S_q65 : TS_q65) : List Atom → (V → List Blk → Bool) → Bool := fun a_ cont_ => match a_ with
  | [.fls x] => S_q65 x (fun r0 r1 => cont_ (.tup [.int .i64 r0, .bool r1]) [])
  | _ => false
abbrev F_q65 (S_q65 : TS_q65) : Fs := mkFs shF_q65 (sp_q65 S_q65)

def shF_q60 : FnSh := ⟨[.litI .i64 0], []⟩
def sp_q60 (S_q60 : TS_q60) : List Atom → (V → List Blk → Bool) → Bool := fun a_ cont_ => match a_ with
  | [] => S_q60 (cont_ (.bool true) [])
  | _ => false
abbrev F_q60 (S_q60 : TS_q60) : Fs := mkFs shF_q60 (sp_q60 S_q60)

def shF_q40 : FnSh := ⟨[], []⟩
def sp_q40 (S_q40 : TS_q40) : List Atom → (V → List Blk → Bool) → Bool := fun a_ cont_ => match a_ with
  | [] => S_q40 (cont_ (.agg [.int .i64 53, .int .i64 (-1022), .int .i64 1023, .int .i64 11]) [])
  | _ => false
abbrev F_q40 (S_q40 : TS_q40) : Fs := mkFs shF_q40 (sp_q40 S_q40)

def shF_q8 : FnSh := ⟨[.slw 0], [some (260, 1, .ints .u32)]⟩
def sp_q8 (S_q8 : TS_q8) : List Atom → (V → List Blk → Bool) → Bool := fun a_ cont_ => match a_ with
  | [.ints b] => S_q8 b (fun r0 r1 => cont_ (.sl 0 r0 r1) [⟨260, 1, .ints .u32 b⟩])
  | _ => false
abbrev F_q8 (S_q8 : TS_q8) : Fs := mkFs shF_q8 (sp_q8 S_q8)

def shF_q49 : FnSh := ⟨[.int .u64], []⟩
def sp_q49 (S_q49 : TS_q49) : List Atom → (V → List Blk → Bool) → Bool := fun a_ cont_ => match a_ with
  | [.int n] => S_q49 n (fun r0 => cont_ (.roi .u32 r0) [])
  | _ => false
abbrev F_q49 (S_q49 : TS_q49) : Fs := mkFs shF_q49 (sp_q49 S_q49)

def shF_q100 : FnSh := ⟨[.roi .u32], []⟩
def sp_q100 (S_q100 : TS_q100) : List Atom → (V → List Blk → Bool) → Bool := fun a_ cont_ => match a_ with
  | [.ints m] => S_q100 m (fun r0 => cont_ (.roi .u32 r0) [])
  | _ => false
abbrev F_q100 (S_q100 : TS_q100) : Fs := mkFs shF_q100 (sp_q100 S_q100)

def shF_q13 : FnSh := ⟨[.ptr 0 0, .bool, .roi .u32], [some (243, 1, .cells [.bool, .nil])]⟩
def sp_q13 (S_q13 : TS_q13) : List Atom → (V → List Blk → Bool) → Bool := fun a_ cont_ => match a_ with
  | [.bool neg, .ints m, .bool b] => S_q13 neg m b (fun r0 r1 => cont_ (.ptr 0 0) [⟨243, 1, .cells [.bool r0, .roi .u32 r1]⟩])
  | _ => false
abbrev F_q13 (S_q13 : TS_q13) : Fs := mkFs shF_q13 (sp_q13 S_q13)

def shF_q25 : FnSh := ⟨[.ptr 0 0, .int .u64], [some (243, 1, .cells [.bool, .nil])]⟩
def sp_q25 (S_q25 : TS_q25) : List Atom → (V → List Blk → Bool) → Bool := fun a_ cont_ => match a_ with
  | [.int n, .bool b] => S_q25 n b (fun r0 r1 => cont_ (.ptr 0 0) [⟨243, 1, .cells [.bool r0, .roi .u32 r1]⟩])
  | _ => false
abbrev F_q25 (S_q25 : TS_q25) : Fs := mkFs shF_q25 (sp_q25 S_q25)

def shF_q19 : FnSh := ⟨[.ptr 0 0, .bool, .roi .u32], [some (243, 1, .cells [.bool, .roi .u32])]⟩
def sp_q19 (S_q19 : TS_q19) : List Atom → (V → List Blk → Bool) → Bool := fun a_ cont_ => match a_ with
  | [.bool neg, .ints m, .bool b, .ints b_1] => S_q19 neg m b b_1 (fun r0 r1 => cont_ (.ptr 0 0) [⟨243, 1, .cells [.bool r0, .roi .u32 r1]⟩])
  | _ => false
abbrev F_q19 (S_q19 : TS_q19) : Fs := mkFs shF_q19 (sp_q19 S_q19)

def shF_q29 : FnSh := ⟨[.ptr 0 0, .int .u64], [some (243, 1, .cells [.bool, .roi .u32])]⟩
def sp_q29 (S_q29 : TS_q29) : List Atom → (V → List Blk → Bool) → Bool := fun a_ cont_ => match a_ with
  | [.int n, .bool b, .ints b_1] => S_q29 n b b_1 (fun r0 r1 => cont_ (.ptr 0 0) [⟨243, 1, .cells [.bool r0, .roi .u32 r1]⟩])
  | _ => false
abbrev F_q29 (S_q29 : TS_q29) : Fs := mkFs shF_q29 (sp_q29 S_q29)

def shF_q86 : FnSh := ⟨[.agg [.litI .i64 53, .litI .i64 (-1022), .litI .i64 1023, .litI .i64 11], .int .u64], []⟩
def sp_q86 (S_q86 : TS_q86) : List Atom → (V → List Blk → Bool) → Bool := fun a_ cont_ => match a_ with
  | [.int bits] => S_q86 bits (fun r0 => cont_ (.agg [.int .i64 2, .bool false, .ptr 0 0, .int .i64 0]) [⟨243, 1, .cells [.bool r0, .nil]⟩]) (fun r0 r1 r2 => cont_ (.agg [.int .i64 1, .bool r0, .ptr 0 0, .int .i64 (-1074)]) [⟨243, 1, .cells [.bool r1, .roi .u32 r2]⟩]) (fun r0 r1 r2 r3 => cont_ (.agg [.int .i64 0, .bool r0, .ptr 0 0, .int .i64 r1]) [⟨243, 1, .cells [.bool r2, .roi .u32 r3]⟩]) (fun r0 r1 r2 => cont_ (.agg [.int .i64 0, .bool r0, .ptr 0 0, .int .i64 (-1074)]) [⟨243, 1, .cells [.bool r1, .roi .u32 r2]⟩])
  | _ => false
abbrev F_q86 (S_q86 : TS_q86) : Fs := mkFs shF_q86 (sp_q86 S_q86)

def shF_q104 : FnSh := ⟨[.agg [.litI .i64 53, .litI .i64 (-1022), .litI .i64 1023, .litI .i64 11]], []⟩
def sp_q104 (S_q104 : TS_q104) : List Atom → (V → List Blk → Bool) → Bool := fun a_ cont_ => match a_ with
  | [] => S_q104 (fun r0 => cont_ (.int .u64 r0) [])
  | _ => false
abbrev F_q104 (S_q104 : TS_q104) : Fs := mkFs shF_q104 (sp_q104 S_q104)

def shF_q90 : FnSh := ⟨[.agg [.litI .i64 53, .litI .i64 (-1022), .litI .i64 1023, .litI .i64 11], .agg [.litI .i64 2, .litB false, .ptr 0 0, .litI .i64 0], .litI .i64 0], [some (243, 1, .cells [.bool, .nil])]⟩
def sp_q90 (S_q90 : TS_q90) : List Atom → (V → List Blk → Bool) → Bool := fun a_ cont_ => match a_ with
  | [.bool b] => S_q90 b (fun r0 r1 => cont_ (.tup [.int .u64 r0, .int .i64 r1]) [⟨243, 1, .cells [.bool b, .nil]⟩])
  | _ => false
abbrev F_q90 (S_q90 : TS_q90) : Fs := mkFs shF_q90 (sp_q90 S_q90)

def shF_q20 : FnSh := ⟨[.agg [.litI .i64 53, .litI .i64 (-1022), .litI .i64 1023, .litI .i64 11], .bool, .int .i64, .int .u64], []⟩
def sp_q20 (S_q20 : TS_q20) : List Atom → (V → List Blk → Bool) → Bool := fun a_ cont_ => match a_ with
  | [.bool neg, .int field, .int frac] => S_q20 neg field frac (fun r0 => cont_ (.int .u64 r0) [])
  | _ => false
abbrev F_q20 (S_q20 : TS_q20) : Fs := mkFs shF_q20 (sp_q20 S_q20)

def shF_q47 : FnSh := ⟨[.agg [.litI .i64 53, .litI .i64 (-1022), .litI .i64 1023, .litI .i64 11], .bool], []⟩
def sp_q47 (S_q47 : TS_q47) : List Atom → (V → List Blk → Bool) → Bool := fun a_ cont_ => match a_ with
  | [.bool neg] => S_q47 neg (fun r0 => cont_ (.int .u64 r0) [])
  | _ => false
abbrev F_q47 (S_q47 : TS_q47) : Fs := mkFs shF_q47 (sp_q47 S_q47)

def shF_q44 : FnSh := ⟨[.ptr 0 0], [some (243, 1, .cells [.bool, .roi .u32])]⟩
def sp_q44 (S_q44 : TS_q44) : List Atom → (V → List Blk → Bool) → Bool := fun a_ cont_ => match a_ with
  | [.bool b, .ints b_1] => S_q44 b b_1 (fun r0 => cont_ (.int .i64 r0) [⟨243, 1, .cells [.bool b, .roi .u32 b_1]⟩])
  | _ => false
abbrev F_q44 (S_q44 : TS_q44) : Fs := mkFs shF_q44 (sp_q44 S_q44)

def shF_q94 : FnSh := ⟨[.agg [.int .i64, .bool, .ptr 0 0, .int .i64]], [some (243, 1, .cells [.bool, .roi .u32])]⟩
def sp_q94 (S_q94 : TS_q94) : List Atom → (V → List Blk → Bool) → Bool := fun a_ cont_ => match a_ with
  | [.int n_0, .bool n_1, .int n_2, .bool b, .ints b_1] => S_q94 n_0 n_1 n_2 b b_1 (fun r0 => cont_ (.bool r0) [⟨243, 1, .cells [.bool b, .roi .u32 b_1]⟩])
  | _ => false
abbrev F_q94 (S_q94 : TS_q94) : Fs := mkFs shF_q94 (sp_q94 S_q94)

def shF_q99 : FnSh := ⟨[.agg [.litI .i64 53, .litI .i64 (-1022), .litI .i64 1023, .litI .i64 11], .bool], []⟩
def sp_q99 (S_q99 : TS_q99) : List Atom → (V → List Blk → Bool) → Bool := fun a_ cont_ => match a_ with
  | [.bool neg] => S_q99 neg (fun r0 => cont_ (.int .u64 r0) [])
  | _ => false
abbrev F_q99 (S_q99 : TS_q99) : Fs := mkFs shF_q99 (sp_q99 S_q99)

def shF_q63 : FnSh := ⟨[.int .u32], []⟩
def sp_q63 (S_q63 : TS_q63) : List Atom → (V → List Blk → Bool) → Bool := fun a_ cont_ => match a_ with
  | [.int x] => S_q63 x (fun r0 => cont_ (.int .i64 r0) [])
  | _ => false
abbrev F_q63 (S_q63 : TS_q63) : Fs := mkFs shF_q63 (sp_q63 S_q63)

def shF_q1 : FnSh := ⟨[.ptr 0 0], [some (243, 1, .cells [.bool, .roi .u32])]⟩
def sp_q1 (S_q1 : TS_q1) : List Atom → (V → List Blk → Bool) → Bool := fun a_ cont_ => match a_ with
  | [.bool b, .ints b_1] => S_q1 b b_1 (fun r0 => cont_ (.int .i64 r0) [⟨243, 1, .cells [.bool b, .roi .u32 b_1]⟩])
  | _ => false
abbrev F_q1 (S_q1 : TS_q1) : Fs := mkFs shF_q1 (sp_q1 S_q1)

def shF_q68 : FnSh := ⟨[.ptr 0 0, .bool, .slw 1], [some (243, 1, .cells [.bool, .nil]), some (260, 1, .ints .u32)]⟩
def sp_q68 (S_q68 : TS_q68) : List Atom → (V → List Blk → Bool) → Bool := fun a_ cont_ => match a_ with
  | [.bool neg, .bool b, .ints b_1] => S_q68 neg b b_1 (fun r0 r1 r2 => cont_ (.ptr 0 0) [⟨243, 1, .cells [.bool r0, .sl 1 r1 r2]⟩, ⟨260, 1, .ints .u32 b_1⟩])
  | _ => false
abbrev F_q68 (S_q68 : TS_q68) : Fs := mkFs shF_q68 (sp_q68 S_q68)

def shF_q3 : FnSh := ⟨[.ptr 0 0, .ptr 1 0], [some (243, 1, .cells [.bool, .nil]), some (243, 1, .cells [.bool, .roi .u32])]⟩
def sp_q3 (S_q3 : TS_q3) : List Atom → (V → List Blk → Bool) → Bool := fun a_ cont_ => match a_ with
  | [.bool b, .bool b_1, .ints b_2] => S_q3 b b_1 b_2 (fun r0 r1 => cont_ (.ptr 0 0) [⟨243, 1, .cells [.bool r0, .roi .u32 r1]⟩, ⟨243, 1, .cells [.bool b_1, .roi .u32 b_2]⟩])
  | _ => false
abbrev F_q3 (S_q3 : TS_q3) : Fs := mkFs shF_q3 (sp_q3 S_q3)

def shF_q79 : FnSh := ⟨[.roi .u32, .int .u64], []⟩
def sp_q79 (S_q79 : TS_q79) : List Atom → (V → List Blk → Bool) → Bool := fun a_ cont_ => match a_ with
  | [.ints m, .int n] => S_q79 m n (fun r0 => cont_ (.roi .u32 r0) [])
  | _ => false
abbrev F_q79 (S_q79 : TS_q79) : Fs := mkFs shF_q79 (sp_q79 S_q79)

def shF_q5 : FnSh := ⟨[.ptr 0 0, .ptr 0 0, .int .u64], [some (243, 1, .cells [.bool, .roi .u32])]⟩
def sp_q5 (S_q5 : TS_q5) : List Atom → (V → List Blk → Bool) → Bool := fun a_ cont_ => match a_ with
  | [.int n, .bool b, .ints b_1] => S_q5 n b b_1 (fun r0 r1 => cont_ (.ptr 0 0) [⟨243, 1, .cells [.bool r0, .roi .u32 r1]⟩])
  | _ => false
abbrev F_q5 (S_q5 : TS_q5) : Fs := mkFs shF_q5 (sp_q5 S_q5)

def shF_q66 : FnSh := ⟨[.roi .u32, .int .u64], []⟩
def sp_q66 (S_q66 : TS_q66) : List Atom → (V → List Blk → Bool) → Bool := fun a_ cont_ => match a_ with
  | [.ints m, .int n] => S_q66 m n (fun r0 => cont_ (.roi .u32 r0) [])
  | _ => false
abbrev F_q66 (S_q66 : TS_q66) : Fs := mkFs shF_q66 (sp_q66 S_q66)

def shF_q10 : FnSh := ⟨[.roi .u32, .roi .u32], []⟩
def sp_q10 (S_q10 : TS_q10) : List Atom → (V → List Blk → Bool) → Bool := fun a_ cont_ => match a_ with
  | [.ints a, .ints b] => S_q10 a b (fun r0 => cont_ (.roi .u32 r0) [])
  | _ => false
abbrev F_q10 (S_q10 : TS_q10) : Fs := mkFs shF_q10 (sp_q10 S_q10)

def shF_q45 : FnSh := ⟨[.roi .u32, .roi .u32], []⟩
def sp_q45 (S_q45 : TS_q45) : List Atom → (V → List Blk → Bool) → Bool := fun a_ cont_ => match a_ with
  | [.ints a, .ints b] => S_q45 a b (fun r0 => cont_ (.roi .u32 r0) [])
  | _ => false
abbrev F_q45 (S_q45 : TS_q45) : Fs := mkFs shF_q45 (sp_q45 S_q45)

def shF_q56 : FnSh := ⟨[.ptr 0 0, .ptr 1 0, .int .u64], [some (243, 1, .cells [.bool, .nil]), some (243, 1, .cells [.bool, .roi .u32])]⟩
def sp_q56 (S_q56 : TS_q56) : List Atom → (V → List Blk → Bool) → Bool := fun a_ cont_ => match a_ with
  | [.int n, .bool b, .bool b_1, .ints b_2] => S_q56 n b b_1 b_2 (fun r0 r1 => cont_ (.ptr 0 0) [⟨243, 1, .cells [.bool r0, .roi .u32 r1]⟩, ⟨243, 1, .cells [.bool b_1, .roi .u32 b_2]⟩])
  | _ => false
abbrev F_q56 (S_q56 : TS_q56) : Fs := mkFs shF_q56 (sp_q56 S_q56)

def shF_q54 : FnSh := ⟨[.ptr 0 0, .ptr 1 0, .int .u64], [some (243, 1, .cells [.bool, .nil]), some (243, 1, .cells [.bool, .roi .u32])]⟩
def sp_q54 (S_q54 : TS_q54) : List Atom → (V → List Blk → Bool) → Bool := fun a_ cont_ => match a_ with
  | [.int n, .bool b, .bool b_1, .ints b_2] => S_q54 n b b_1 b_2 (fun r0 r1 => cont_ (.ptr 0 0) [⟨243, 1, .cells [.bool r0, .roi .u32 r1]⟩, ⟨243, 1, .cells [.bool b_1, .roi .u32 b_2]⟩])
  | _ => false
abbrev F_q54 (S_q54 : TS_q54) : Fs := mkFs shF_q54 (sp_q54 S_q54)

def shF_q23 : FnSh := ⟨[.roi .u32, .roi .u32], []⟩
def sp_q23 (S_q23 : TS_q23) : List Atom → (V → List Blk → Bool) → Bool := fun a_ cont_ => match a_ with
  | [.ints a, .ints b] => S_q23 a b (fun r0 => cont_ (.int .i64 r0) [])
  | _ => false
abbrev F_q23 (S_q23 : TS_q23) : Fs := mkFs shF_q23 (sp_q23 S_q23)

def shF_q31 : FnSh := ⟨[.ptr 0 0, .ptr 1 0, .ptr 2 0, .bool], [some (243, 1, .cells [.bool, .nil]), some (243, 1, .cells [.bool, .roi .u32]), some (243, 1, .cells [.bool, .roi .u32])]⟩
def sp_q31 (S_q31 : TS_q31) : List Atom → (V → List Blk → Bool) → Bool := fun a_ cont_ => match a_ with
  | [.bool turn, .bool b, .bool b_1, .ints b_2, .bool b_3, .ints b_4] => S_q31 turn b b_1 b_2 b_3 b_4 (fun r0 r1 => cont_ (.ptr 0 0) [⟨243, 1, .cells [.bool r0, .roi .u32 r1]⟩, ⟨243, 1, .cells [.bool b_1, .roi .u32 b_2]⟩, ⟨243, 1, .cells [.bool b_3, .roi .u32 b_4]⟩])
  | _ => false
abbrev F_q31 (S_q31 : TS_q31) : Fs := mkFs shF_q31 (sp_q31 S_q31)

def shF_q30 : FnSh := ⟨[.ptr 0 0, .ptr 1 0, .ptr 2 0], [some (243, 1, .cells [.bool, .nil]), some (243, 1, .cells [.bool, .roi .u32]), some (243, 1, .cells [.bool, .roi .u32])]⟩
def sp_q30 (S_q30 : TS_q30) : List Atom → (V → List Blk → Bool) → Bool := fun a_ cont_ => match a_ with
  | [.bool b, .bool b_1, .ints b_2, .bool b_3, .ints b_4] => S_q30 b b_1 b_2 b_3 b_4 (fun r0 r1 => cont_ (.ptr 0 0) [⟨243, 1, .cells [.bool r0, .roi .u32 r1]⟩, ⟨243, 1, .cells [.bool b_1, .roi .u32 b_2]⟩, ⟨243, 1, .cells [.bool b_3, .roi .u32 b_4]⟩])
  | _ => false
abbrev F_q30 (S_q30 : TS_q30) : Fs := mkFs shF_q30 (sp_q30 S_q30)

def shF_q34 : FnSh := ⟨[.ptr 0 0, .int .i64], [some (243, 1, .cells [.bool, .nil])]⟩
def sp_q34 (S_q34 : TS_q34) : List Atom → (V → List Blk → Bool) → Bool := fun a_ cont_ => match a_ with
  | [.int n, .bool b] => S_q34 n b (fun r0 r1 => cont_ (.ptr 0 0) [⟨243, 1, .cells [.bool r0, .roi .u32 r1]⟩])
  | _ => false
abbrev F_q34 (S_q34 : TS_q34) : Fs := mkFs shF_q34 (sp_q34 S_q34)

def shF_q6 : FnSh := ⟨[.int .i64], []⟩
def sp_q6 (S_q6 : TS_q6) : List Atom → (V → List Blk → Bool) → Bool := fun a_ cont_ => match a_ with
  | [.int n] => S_q6 n (fun r0 r1 => cont_ (.ptr 0 0) [⟨243, 1, .cells [.bool r0, .roi .u32 r1]⟩])
  | _ => false
abbrev F_q6 (S_q6 : TS_q6) : Fs := mkFs shF_q6 (sp_q6 S_q6)

def shF_q55 : FnSh := ⟨[.ptr 0 0, .ptr 1 0], [some (243, 1, .cells [.bool, .roi .u32]), some (243, 1, .cells [.bool, .roi .u32])]⟩
def sp_q55 (S_q55 : TS_q55) : List Atom → (V → List Blk → Bool) → Bool := fun a_ cont_ => match a_ with
  | [.bool b, .ints b_1, .bool b_2, .ints b_3] => S_q55 b b_1 b_2 b_3 (fun r0 => cont_ (.int .i64 r0) [⟨243, 1, .cells [.bool b, .roi .u32 b_1]⟩, ⟨243, 1, .cells [.bool b_2, .roi .u32 b_3]⟩])
  | _ => false
abbrev F_q55 (S_q55 : TS_q55) : Fs := mkFs shF_q55 (sp_q55 S_q55)

def shF_q17 : FnSh := ⟨[.ptr 0 0, .int .i64, .litB false], [some (243, 1, .cells [.bool, .roi .u32])]⟩
def sp_q17 (S_q17 : TS_q17) : List Atom → (V → List Blk → Bool) → Bool := fun a_ cont_ => match a_ with
  | [.int s, .bool b, .ints b_1] => S_q17 s b b_1 (fun r0 r3 r4 => cont_ (.tup [.ptr 1 0, .int .i64 r0]) [⟨243, 1, .cells [.bool b, .roi .u32 b_1]⟩, ⟨243, 1, .cells [.bool r3, .roi .u32 r4]⟩])
  | _ => false
abbrev F_q17 (S_q17 : TS_q17) : Fs := mkFs shF_q17 (sp_q17 S_q17)

def shF_q70 : FnSh := ⟨[.ptr 0 0, .int .i64], [some (243, 1, .cells [.bool, .roi .u32])]⟩
def sp_q70 (S_q70 : TS_q70) : List Atom → (V → List Blk → Bool) → Bool := fun a_ cont_ => match a_ with
  | [.int i, .bool b, .ints b_1] => S_q70 i b b_1 (fun r0 => cont_ (.int .u64 r0) [⟨243, 1, .cells [.bool b, .roi .u32 b_1]⟩])
  | _ => false
abbrev F_q70 (S_q70 : TS_q70) : Fs := mkFs shF_q70 (sp_q70 S_q70)

def shF_q7 : FnSh := ⟨[.bool, .ptr 0 0, .int .i64, .litI .i64 0], [some (243, 1, .cells [.bool, .roi .u32])]⟩
def sp_q7 (S_q7 : TS_q7) : List Atom → (V → List Blk → Bool) → Bool := fun a_ cont_ => match a_ with
  | [.bool neg, .int c, .bool b, .ints b_1] => S_q7 neg c b b_1 (fun r0 => cont_ (.bool r0) [⟨243, 1, .cells [.bool b, .roi .u32 b_1]⟩])
  | _ => false
abbrev F_q7 (S_q7 : TS_q7) : Fs := mkFs shF_q7 (sp_q7 S_q7)

def shF_q33 : FnSh := ⟨[.ptr 0 0, .ptr 0 0, .ptr 1 0, .bool], [some (243, 1, .cells [.bool, .roi .u32]), some (243, 1, .cells [.bool, .roi .u32])]⟩
def sp_q33 (S_q33 : TS_q33) : List Atom → (V → List Blk → Bool) → Bool := fun a_ cont_ => match a_ with
  | [.bool turn, .bool b, .ints b_1, .bool b_2, .ints b_3] => S_q33 turn b b_1 b_2 b_3 (fun r0 r1 => cont_ (.ptr 0 0) [⟨243, 1, .cells [.bool r0, .roi .u32 r1]⟩, ⟨243, 1, .cells [.bool b_2, .roi .u32 b_3]⟩])
  | _ => false
abbrev F_q33 (S_q33 : TS_q33) : Fs := mkFs shF_q33 (sp_q33 S_q33)

def shF_q0 : FnSh := ⟨[.ptr 0 0, .ptr 0 0, .ptr 1 0], [some (243, 1, .cells [.bool, .roi .u32]), some (243, 1, .cells [.bool, .roi .u32])]⟩
def sp_q0 (S_q0 : TS_q0) : List Atom → (V → List Blk → Bool) → Bool := fun a_ cont_ => match a_ with
  | [.bool b, .ints b_1, .bool b_2, .ints b_3] => S_q0 b b_1 b_2 b_3 (fun r0 r1 => cont_ (.ptr 0 0) [⟨243, 1, .cells [.bool r0, .roi .u32 r1]⟩, ⟨243, 1, .cells [.bool b_2, .roi .u32 b_3]⟩])
  | _ => false
abbrev F_q0 (S_q0 : TS_q0) : Fs := mkFs shF_q0 (sp_q0 S_q0)

def shF_q4 : FnSh := ⟨[.ptr 0 0, .ptr 0 0, .int .u64], [some (243, 1, .cells [.bool, .roi .u32])]⟩
def sp_q4 (S_q4 : TS_q4) : List Atom → (V → List Blk → Bool) → Bool := fun a_ cont_ => match a_ with
  | [.int n, .bool b, .ints b_1] => S_q4 n b b_1 (fun r0 r1 => cont_ (.ptr 0 0) [⟨243, 1, .cells [.bool r0, .roi .u32 r1]⟩])
  | _ => false
abbrev F_q4 (S_q4 : TS_q4) : Fs := mkFs shF_q4 (sp_q4 S_q4)

def shF_q16 : FnSh := ⟨[.agg [.litI .i64 53, .litI .i64 (-1022), .litI .i64 1023, .litI .i64 11], .bool, .litI .i64 0], []⟩
def sp_q16 (S_q16 : TS_q16) : List Atom → (V → List Blk → Bool) → Bool := fun a_ cont_ => match a_ with
  | [.bool neg] => S_q16 neg (fun r0 => cont_ (.int .u64 r0) [])
  | _ => false
abbrev F_q16 (S_q16 : TS_q16) : Fs := mkFs shF_q16 (sp_q16 S_q16)

def shF_q2 : FnSh := ⟨[.ptr 0 0], [some (243, 1, .cells [.bool, .roi .u32])]⟩
def sp_q2 (S_q2 : TS_q2) : List Atom → (V → List Blk → Bool) → Bool := fun a_ cont_ => match a_ with
  | [.bool b, .ints b_1] => S_q2 b b_1 (fun r0 => cont_ (.int .u64 r0) [⟨243, 1, .cells [.bool b, .roi .u32 b_1]⟩])
  | _ => false
abbrev F_q2 (S_q2 : TS_q2) : Fs := mkFs shF_q2 (sp_q2 S_q2)

def shF_q82 : FnSh := ⟨[.agg [.litI .i64 53, .litI .i64 (-1022), .litI .i64 1023, .litI .i64 11], .bool, .ptr 0 0, .int .i64, .litB false, .litI .i64 0], [some (243, 1, .cells [.bool, .roi .u32])]⟩
def sp_q82 (S_q82 : TS_q82) : List Atom → (V → List Blk → Bool) → Bool := fun a_ cont_ => match a_ with
  | [.bool neg, .int e, .bool b, .ints b_1] => S_q82 neg e b b_1 (fun r0 r1 => cont_ (.tup [.int .u64 r0, .int .i64 r1]) [⟨243, 1, .cells [.bool b, .roi .u32 b_1]⟩])
  | _ => false
abbrev F_q82 (S_q82 : TS_q82) : Fs := mkFs shF_q82 (sp_q82 S_q82)

def shF_q53 : FnSh := ⟨[.agg [.litI .i64 53, .litI .i64 (-1022), .litI .i64 1023, .litI .i64 11], .agg [.int .i64, .bool, .ptr 0 0, .int .i64], .litI .i64 0], [some (243, 1, .cells [.bool, .roi .u32])]⟩
def sp_q53 (S_q53 : TS_q53) : List Atom → (V → List Blk → Bool) → Bool := fun a_ cont_ => match a_ with
  | [.int n_0, .bool n_1, .int n_2, .bool b, .ints b_1] => S_q53 n_0 n_1 n_2 b b_1 (fun r0 r1 => cont_ (.tup [.int .u64 r0, .int .i64 r1]) [⟨243, 1, .cells [.bool b, .roi .u32 b_1]⟩])
  | _ => false
abbrev F_q53 (S_q53 : TS_q53) : Fs := mkFs shF_q53 (sp_q53 S_q53)

def shF_q83 : FnSh := ⟨[.int .u64, .int .i64, .litI .i64 0], []⟩
def sp_q83 (S_q83 : TS_q83) : List Atom → (V → List Blk → Bool) → Bool := fun a_ cont_ => match a_ with
  | [.int x, .int k_] => S_q83 x k_ (fun r0 r1 r2 => cont_ (.tup [.int .u64 r0, .int .i64 r1, .int .i64 r2]) [])
  | _ => false
abbrev F_q83 (S_q83 : TS_q83) : Fs := mkFs shF_q83 (sp_q83 S_q83)

def shF_q24 : FnSh := ⟨[.flt, .int .i64], []⟩
def sp_q24 (S_q24 : TS_q24) : List Atom → (V → List Blk → Bool) → Bool := fun a_ cont_ => match a_ with
  | [.fl x, .int k_] => S_q24 x k_ (fun r0 => cont_ (.flt r0) [])
  | _ => false
abbrev F_q24 (S_q24 : TS_q24) : Fs := mkFs shF_q24 (sp_q24 S_q24)

def shF_q91 : FnSh := ⟨[.rof, .rof], []⟩
def sp_q91 (S_q91 : TS_q91) : List Atom → (V → List Blk → Bool) → Bool := fun a_ cont_ => match a_ with
  | [.fls x, .fls y] => S_q91 x y (fun r0 => cont_ (.flt r0) [])
  | _ => false
abbrev F_q91 (S_q91 : TS_q91) : Fs := mkFs shF_q91 (sp_q91 S_q91)

def shF_q75 : FnSh := ⟨[.rof, .int .i64], []⟩
def sp_q75 (S_q75 : TS_q75) : List Atom → (V → List Blk → Bool) → Bool := fun a_ cont_ => match a_ with
  | [.fls x, .int k_] => S_q75 x k_ (fun r0 r1 => cont_ (.tup [.slw 0, .flt r0]) [⟨24, 1, .flts r1⟩])
  | _ => false
abbrev F_q75 (S_q75 : TS_q75) : Fs := mkFs shF_q75 (sp_q75 S_q75)

def shF_q77 : FnSh := ⟨[.rof], []⟩
def sp_q77 (S_q77 : TS_q77) : List Atom → (V → List Blk → Bool) → Bool := fun a_ cont_ => match a_ with
  | [.fls x] => S_q77 x (fun r0 r1 => cont_ (.tup [.flt r0, .int .i64 r1]) [])
  | _ => false
abbrev F_q77 (S_q77 : TS_q77) : Fs := mkFs shF_q77 (sp_q77 S_q77)

def shF_q76 : FnSh := ⟨[.agg [.flt, .flt, .flt]], []⟩
def sp_q76 (S_q76 : TS_q76) : List Atom → (V → List Blk → Bool) → Bool := fun a_ cont_ => match a_ with
  | [.fl v_0, .fl v_1, .fl v_2] => S_q76 v_0 v_1 v_2 (fun r0 r1 r2 r3 => cont_ (.tup [.agg [.flt r0, .flt r1, .flt r2], .int .i64 r3]) [])
  | _ => false
abbrev F_q76 (S_q76 : TS_q76) : Fs := mkFs shF_q76 (sp_q76 S_q76)

def shF_q43 : FnSh := ⟨[.ro 1 [.bool, .bool]], []⟩
def sp_q43 (S_q43 : TS_q43) : List Atom → (V → List Blk → Bool) → Bool := fun a_ cont_ => match a_ with
  | [.bool ok_0, .bool ok_1] => S_q43 ok_0 ok_1 (fun r0 => cont_ (.int .i64 r0) [])
  | _ => false
abbrev F_q43 (S_q43 : TS_q43) : Fs := mkFs shF_q43 (sp_q43 S_q43)

def shF_q95 : FnSh := ⟨[.agg [.flt, .flt, .flt], .agg [.flt, .flt, .flt]], []⟩
def sp_q95 (S_q95 : TS_q95) : List Atom → (V → List Blk → Bool) → Bool := fun a_ cont_ => match a_ with
  | [.fl a_0, .fl a_1, .fl a_2, .fl b_0, .fl b_1, .fl b_2] => S_q95 a_0 a_1 a_2 b_0 b_1 b_2 (fun r0 r1 r2 => cont_ (.agg [.flt r0, .flt r1, .flt r2]) [])
  | _ => false
abbrev F_q95 (S_q95 : TS_q95) : Fs := mkFs shF_q95 (sp_q95 S_q95)

def shF_q73 : FnSh := ⟨[.agg [.flt, .flt, .flt]], []⟩
def sp_q73 (S_q73 : TS_q73) : List Atom → (V → List Blk → Bool) → Bool := fun a_ cont_ => match a_ with
  | [.fl v_0, .fl v_1, .fl v_2] => S_q73 v_0 v_1 v_2 (fun r0 r1 r2 r3 => cont_ (.tup [.agg [.flt r0, .flt r1, .flt r2], .int .i64 r3]) [])
  | _ => false
abbrev F_q73 (S_q73 : TS_q73) : Fs := mkFs shF_q73 (sp_q73 S_q73)

def shF_q87 : FnSh := ⟨[.agg [.flt, .flt, .flt], .agg [.flt, .flt, .flt]], []⟩
def sp_q87 (S_q87 : TS_q87) : List Atom → (V → List Blk → Bool) → Bool := fun a_ cont_ => match a_ with
  | [.fl a_0, .fl a_1, .fl a_2, .fl b_0, .fl b_1, .fl b_2] => S_q87 a_0 a_1 a_2 b_0 b_1 b_2 (fun r0 r1 r2 r3 => cont_ (.tup [.agg [.flt r0, .flt r1, .flt r2], .int .i64 r3]) [])
  | _ => false
abbrev F_q87 (S_q87 : TS_q87) : Fs := mkFs shF_q87 (sp_q87 S_q87)

def shF_q102 : FnSh := ⟨[.agg [.flt, .flt, .flt], .agg [.flt, .flt, .flt]], []⟩
def sp_q102 (S_q102 : TS_q102) : List Atom → (V → List Blk → Bool) → Bool := fun a_ cont_ => match a_ with
  | [.fl a_0, .fl a_1, .fl a_2, .fl b_0, .fl b_1, .fl b_2] => S_q102 a_0 a_1 a_2 b_0 b_1 b_2 (fun r0 r1 r2 r3 r4 r5 r6 r7 r8 r9 => cont_ (.tup [.agg [.flt r0, .flt r1, .flt r2, .flt r3, .flt r4, .flt r5, .flt r6, .flt r7, .flt r8], .int .i64 r9]) [])
  | _ => false
abbrev F_q102 (S_q102 : TS_q102) : Fs := mkFs shF_q102 (sp_q102 S_q102)

def shF_q105 : FnSh := ⟨[.int .i64, .int .i64], []⟩
def sp_q105 (S_q105 : TS_q105) : List Atom → (V → List Blk → Bool) → Bool := fun a_ cont_ => match a_ with
  | [.int rows, .int cols] => S_q105 rows cols (fun r2 => cont_ (.agg [.int .i64 rows, .int .i64 cols, .slw 0]) [⟨24, 1, .flts r2⟩])
  | _ => false
abbrev F_q105 (S_q105 : TS_q105) : Fs := mkFs shF_q105 (sp_q105 S_q105)

def shF_q51 : FnSh := ⟨[.ptr 0 0, .flt], [some (76, 1, .cells [.bool])]⟩
def sp_q51 (S_q51 : TS_q51) : List Atom → (V → List Blk → Bool) → Bool := fun a_ cont_ => match a_ with
  | [.fl x, .bool b] => S_q51 x b (fun r1 => cont_ (.flt x) [⟨76, 1, .cells [.bool r1]⟩])
  | _ => false
abbrev F_q51 (S_q51 : TS_q51) : Fs := mkFs shF_q51 (sp_q51 S_q51)

def shF_q72 : FnSh := ⟨[.agg [.int .i64, .int .i64, .slw 0], .int .i64, .int .i64, .flt], [some (24, 1, .flts)]⟩
def sp_q72 (S_q72 : TS_q72) : List Atom → (V → List Blk → Bool) → Bool := fun a_ cont_ => match a_ with
  | [.int m_0, .int m_1, .int i, .int j, .fl x, .fls b] => S_q72 m_0 m_1 i j x b (fun r0 => cont_ (.tup []) [⟨24, 1, .flts r0⟩])
  | _ => false
abbrev F_q72 (S_q72 : TS_q72) : Fs := mkFs shF_q72 (sp_q72 S_q72)

def shF_q37 : FnSh := ⟨[.agg [.int .i64, .int .i64, .rof]], []⟩
def sp_q37 (S_q37 : TS_q37) : List Atom → (V → List Blk → Bool) → Bool := fun a_ cont_ => match a_ with
  | [.int m_0, .int m_1, .fls m_2] => S_q37 m_0 m_1 m_2 (fun r0 => cont_ (.int .i64 r0) [])
  | _ => false
abbrev F_q37 (S_q37 : TS_q37) : Fs := mkFs shF_q37 (sp_q37 S_q37)

def shF_q96 : FnSh := ⟨[.bool, .int .i64], []⟩
def sp_q96 (S_q96 : TS_q96) : List Atom → (V → List Blk → Bool) → Bool := fun a_ cont_ => match a_ with
  | [.bool is, .int e] => S_q96 is e (fun r0 => cont_ (.int .i64 r0) [])
  | _ => false
abbrev F_q96 (S_q96 : TS_q96) : Fs := mkFs shF_q96 (sp_q96 S_q96)

def shF_q32 : FnSh := ⟨[.roi .i64], []⟩
def sp_q32 (S_q32 : TS_q32) : List Atom → (V → List Blk → Bool) → Bool := fun a_ cont_ => match a_ with
  | [.ints l] => S_q32 l (fun r0 => cont_ (.int .i64 r0) [])
  | _ => false
abbrev F_q32 (S_q32 : TS_q32) : Fs := mkFs shF_q32 (sp_q32 S_q32)

def shF_q62 : FnSh := ⟨[.agg [.flt, .flt, .flt, .flt]], []⟩
def sp_q62 (S_q62 : TS_q62) : List Atom → (V → List Blk → Bool) → Bool := fun a_ cont_ => match a_ with
  | [.fl q_0, .fl q_1, .fl q_2, .fl q_3] => S_q62 q_0 q_1 q_2 q_3 (fun r0 => cont_ (.slw 0) [⟨24, 1, .flts r0⟩])
  | _ => false
abbrev F_q62 (S_q62 : TS_q62) : Fs := mkFs shF_q62 (sp_q62 S_q62)

def shF_q18 : FnSh := ⟨[.agg [.flt, .flt, .flt, .flt]], []⟩
def sp_q18 (S_q18 : TS_q18) : List Atom → (V → List Blk → Bool) → Bool := fun a_ cont_ => match a_ with
  | [.fl q_0, .fl q_1, .fl q_2, .fl q_3] => S_q18 q_0 q_1 q_2 q_3 (fun r0 => cont_ (.bool r0) [])
  | _ => false
abbrev F_q18 (S_q18 : TS_q18) : Fs := mkFs shF_q18 (sp_q18 S_q18)

def shF_q35 : FnSh := ⟨[.ro 1 [.bool]], []⟩
def sp_q35 (S_q35 : TS_q35) : List Atom → (V → List Blk → Bool) → Bool := fun a_ cont_ => match a_ with
  | [.bool ok] => S_q35 ok (fun r0 => cont_ (.int .i64 r0) [])
  | _ => false
abbrev F_q35 (S_q35 : TS_q35) : Fs := mkFs shF_q35 (sp_q35 S_q35)

def shF_q119 : FnSh := ⟨[.rof], []⟩
def sp_q119 (S_q119 : TS_q119) : List Atom → (V → List Blk → Bool) → Bool := fun a_ cont_ => match a_ with
  | [.fls l] => S_q119 l (fun r0 r1 r2 r3 => cont_ (.agg [.flt r0, .flt r1, .flt r2, .flt r3]) [])
  | _ => false
abbrev F_q119 (S_q119 : TS_q119) : Fs := mkFs shF_q119 (sp_q119 S_q119)

def shF_q50 : FnSh := ⟨[.agg [.flt, .flt, .flt, .flt]], []⟩
def sp_q50 (S_q50 : TS_q50) : List Atom → (V → List Blk → Bool) → Bool := fun a_ cont_ => match a_ with
  | [.fl q_0, .fl q_1, .fl q_2, .fl q_3] => S_q50 q_0 q_1 q_2 q_3 (fun r0 r1 r2 r3 r4 => cont_ (.tup [.agg [.flt r0, .flt r1, .flt r2, .flt r3], .int .i64 r4]) [])
  | _ => false
abbrev F_q50 (S_q50 : TS_q50) : Fs := mkFs shF_q50 (sp_q50 S_q50)

def shF_q89 : FnSh := ⟨[.agg [.int .i64, .int .i64, .rof]], []⟩
def sp_q89 (S_q89 : TS_q89) : List Atom → (V → List Blk → Bool) → Bool := fun a_ cont_ => match a_ with
  | [.int m_0, .int m_1, .fls m_2] => S_q89 m_0 m_1 m_2 (fun r0 r1 r2 r3 r4 => cont_ (.tup [.agg [.flt r0, .flt r1, .flt r2, .flt r3], .int .i64 r4]) [])
  | _ => false
abbrev F_q89 (S_q89 : TS_q89) : Fs := mkFs shF_q89 (sp_q89 S_q89)

def shF_q69 : FnSh := ⟨[.agg [.flt, .flt, .flt], .agg [.flt, .flt, .flt], .agg [.flt, .flt, .flt], .agg [.flt, .flt, .flt]], []⟩
def sp_q69 (S_q69 : TS_q69) : List Atom → (V → List Blk → Bool) → Bool := fun a_ cont_ => match a_ with
  | [.fl a_0, .fl a_1, .fl a_2, .fl b_0, .fl b_1, .fl b_2, .fl seenA_0, .fl seenA_1, .fl seenA_2, .fl seenB_0, .fl seenB_1, .fl seenB_2] => S_q69 a_0 a_1 a_2 b_0 b_1 b_2 seenA_0 seenA_1 seenA_2 seenB_0 seenB_1 seenB_2 (fun r0 r1 r2 r3 r4 => cont_ (.tup [.agg [.flt r0, .flt r1, .flt r2, .flt r3], .int .i64 r4]) [])
  | _ => false
abbrev F_q69 (S_q69 : TS_q69) : Fs := mkFs shF_q69 (sp_q69 S_q69)

def shF_q97 : FnSh := ⟨[.rof, .rof], []⟩
def sp_q97 (S_q97 : TS_q97) : List Atom → (V → List Blk → Bool) → Bool := fun a_ cont_ => match a_ with
  | [.fls a, .fls b] => S_q97 a b (fun r0 => cont_ (.bool r0) [])
  | _ => false
abbrev F_q97 (S_q97 : TS_q97) : Fs := mkFs shF_q97 (sp_q97 S_q97)

def shF_q74 : FnSh := ⟨[.agg [.flt, .flt, .flt, .flt], .agg [.flt, .flt, .flt, .flt]], []⟩
def sp_q74 (S_q74 : TS_q74) : List Atom → (V → List Blk → Bool) → Bool := fun a_ cont_ => match a_ with
  | [.fl a_0, .fl a_1, .fl a_2, .fl a_3, .fl b_0, .fl b_1, .fl b_2, .fl b_3] => S_q74 a_0 a_1 a_2 a_3 b_0 b_1 b_2 b_3 (fun r0 => cont_ (.bool r0) [])
  | _ => false
abbrev F_q74 (S_q74 : TS_q74) : Fs := mkFs shF_q74 (sp_q74 S_q74)

def shF_matrix_list : FnSh := ⟨[.rof], []⟩
def sp_matrix_list (S_matrix_list : TS_matrix_list) : List Atom → (V → List Blk → Bool) → Bool := fun a_ cont_ => match a_ with
  | [.fls x] => S_matrix_list x (fun r0 => cont_ (.int .i64 r0) [])
  | _ => false
abbrev F_matrix_list (S_matrix_list : TS_matrix_list) : Fs := mkFs shF_matrix_list (sp_matrix_list S_matrix_list)

def shF_matrix_Diag_1_p0r : FnSh := ⟨[.int .i64, .int .i64, .ptr 0 0], [some (44, 1, .cells [.rof])]⟩
def sp_matrix_Diag_1_p0r (S_matrix_Diag_1_p0r : TS_matrix_Diag_1_p0r) : List Atom → (V → List Blk → Bool) → Bool := fun a_ cont_ => match a_ with
  | [.int i, .int j, .fls b] => S_matrix_Diag_1_p0r i j b (fun r0 => cont_ (.flt r0) [⟨44, 1, .cells [.rof b]⟩])
  | _ => false
abbrev F_matrix_Diag_1_p0r (S_matrix_Diag_1_p0r : TS_matrix_Diag_1_p0r) : Fs := mkFs shF_matrix_Diag_1_p0r (sp_matrix_Diag_1_p0r S_matrix_Diag_1_p0r)

def shF_matrix_fill_fr : FnSh := ⟨[.int .i64, .int .i64, .fn 172 [.ptr 0 0]], [some (44, 1, .cells [.rof])]⟩
def sp_matrix_fill_fr (S_matrix_fill_fr : TS_matrix_fill_fr) : List Atom → (V → List Blk → Bool) → Bool := fun a_ cont_ => match a_ with
  | [.int rows, .int cols, .fls b] => S_matrix_fill_fr rows cols b (fun r3 => cont_ (.agg [.int .i64 rows, .int .i64 cols, .slw 1]) [⟨44, 1, .cells [.rof b]⟩, ⟨24, 1, .flts r3⟩])
  | _ => false
abbrev F_matrix_fill_fr (S_matrix_fill_fr : TS_matrix_fill_fr) : Fs := mkFs shF_matrix_fill_fr (sp_matrix_fill_fr S_matrix_fill_fr)

def shF_matrix_Diag : FnSh := ⟨[.rof], []⟩
def sp_matrix_Diag (S_matrix_Diag : TS_matrix_Diag) : List Atom → (V → List Blk → Bool) → Bool := fun a_ cont_ => match a_ with
  | [.fls d] => S_matrix_Diag d (fun r0 r1 r2 => cont_ (.tup [.agg [.int .i64 r0, .int .i64 r1, .nil], .int .i64 r2]) []) (fun r0 r1 r2 r3 => cont_ (.tup [.agg [.int .i64 r0, .int .i64 r1, .slw 0], .int .i64 r2]) [⟨24, 1, .flts r3⟩])
  | _ => false
abbrev F_matrix_Diag (S_matrix_Diag : TS_matrix_Diag) : Fs := mkFs shF_matrix_Diag (sp_matrix_Diag S_matrix_Diag)

def shF_q98 : FnSh := ⟨[.flt, .flt], []⟩
def sp_q98 (S_q98 : TS_q98) : List Atom → (V → List Blk → Bool) → Bool := fun a_ cont_ => match a_ with
  | [.fl a, .fl b] => S_q98 a b (fun r0 r1 r2 => cont_ (.tup [.agg [.int .i64 r0, .int .i64 r1, .nil], .int .i64 r2]) []) (fun r0 r1 r2 r3 => cont_ (.tup [.agg [.int .i64 r0, .int .i64 r1, .slw 0], .int .i64 r2]) [⟨24, 1, .flts r3⟩])
  | _ => false
abbrev F_q98 (S_q98 : TS_q98) : Fs := mkFs shF_q98 (sp_q98 S_q98)

def shF_q109 : FnSh := ⟨[.agg [.flt, .flt, .flt, .flt], .flt, .flt], []⟩
def sp_q109 (S_q109 : TS_q109) : List Atom → (V → List Blk → Bool) → Bool := fun a_ cont_ => match a_ with
  | [.fl q_0, .fl q_1, .fl q_2, .fl q_3, .fl turn, .fl bias] => S_q109 q_0 q_1 q_2 q_3 turn bias (fun r0 r1 r2 r3 r4 r5 r6 r7 r8 r9 => cont_ (.tup [.agg [.flt r0, .flt r1, .flt r2, .flt r3, .flt r4, .flt r5, .flt r6, .int .i64 r7, .int .i64 r8, .nil], .int .i64 r9]) []) (fun r0 r1 r2 r3 r4 r5 r6 r7 r8 r9 r10 => cont_ (.tup [.agg [.flt r0, .flt r1, .flt r2, .flt r3, .flt r4, .flt r5, .flt r6, .int .i64 r7, .int .i64 r8, .slw 0], .int .i64 r9]) [⟨24, 1, .flts r10⟩])
  | _ => false
abbrev F_q109 (S_q109 : TS_q109) : Fs := mkFs shF_q109 (sp_q109 S_q109)

def shF_q116 : FnSh := ⟨[.agg [.flt, .flt, .flt]], []⟩
def sp_q116 (S_q116 : TS_q116) : List Atom → (V → List Blk → Bool) → Bool := fun a_ cont_ => match a_ with
  | [.fl v_0, .fl v_1, .fl v_2] => S_q116 v_0 v_1 v_2 (fun r0 r1 r2 => cont_ (.tup [.agg [.int .i64 r0, .int .i64 r1, .nil], .int .i64 r2]) []) (fun r0 r1 r2 r3 => cont_ (.tup [.agg [.int .i64 r0, .int .i64 r1, .slw 0], .int .i64 r2]) [⟨24, 1, .flts r3⟩])
  | _ => false
abbrev F_q116 (S_q116 : TS_q116) : Fs := mkFs shF_q116 (sp_q116 S_q116)

def shF_q101 : FnSh := ⟨[], []⟩
def sp_q101 (S_q101 : TS_q101) : List Atom → (V → List Blk → Bool) → Bool := fun a_ cont_ => match a_ with
  | [] => S_q101 (fun r0 => cont_ (.bool r0) [])
  | _ => false
abbrev F_q101 (S_q101 : TS_q101) : Fs := mkFs shF_q101 (sp_q101 S_q101)

def shF_q38 : FnSh := ⟨[.agg [.int .u64, .int .u64, .int .u64], .agg [.int .u64, .int .u64, .int .u64], .agg [.int .u64, .int .u64, .int .u64], .agg [.int .u64, .int .u64, .int .u64]], []⟩
def sp_q38 (S_q38 : TS_q38) : List Atom → (V → List Blk → Bool) → Bool := fun a_ cont_ => match a_ with
  | [.int a_0, .int a_1, .int a_2, .int b_0, .int b_1, .int b_2, .int c_0, .int c_1, .int c_2, .int d_0, .int d_1, .int d_2] => S_q38 a_0 a_1 a_2 b_0 b_1 b_2 c_0 c_1 c_2 d_0 d_1 d_2 (fun r0 => cont_ (.bool r0) [])
  | _ => false
abbrev F_q38 (S_q38 : TS_q38) : Fs := mkFs shF_q38 (sp_q38 S_q38)

end Go.Proofs.YtldpkhfffeddiaaGreat
