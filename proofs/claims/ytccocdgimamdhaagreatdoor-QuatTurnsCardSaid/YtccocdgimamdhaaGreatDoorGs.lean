/-
  THE MEANINGS, as specifications (written by program).
  Conditions: none.
-/
import Derived.Test.YtccocdgimamdhaaGreatDoorGp
import Derived.Test.YtccocdgimamdhaaGreatDoorMachZj
import Derived.Test.YtccocdgimamdhaaGreatDoorProg
namespace Go.Proofs.YtccocdgimamdhaaGreatDoor
open Go Go.Mach Go.Proofs
set_option linter.unusedVariables false
set_option maxRecDepth 50000

noncomputable abbrev Pg : Program := Tryz.prog
def isref : Nat -> Bool := fun g => g == 147 || g == 113 || g == 202 || g == 170 || g == 1000201 || g == 1000182 || g == 1000180 || g == 1000059 || g == 1000090

def shF_q172 : FnSh := ⟨[.fb], []⟩
def sp_q172 (S_q172 : TS_q172) : List Atom -> (V -> List Blk -> Bool) -> Bool := fun a_ c_ => match a_ with
  | [.nat a0] => S_q172 a0 (fun r0 => c_ (.int .u64 r0) [])
  | _ => false
abbrev F_q172 (S_q172 : TS_q172) : Fs := mkFs shF_q172 (sp_q172 S_q172)

def shF_an_of : FnSh := ⟨[.litI .i64 0], []⟩
def sp_an_of (S_an_of : TS_an_of) : List Atom -> (V -> List Blk -> Bool) -> Bool := fun a_ c_ => match a_ with
  | [] => S_an_of (fun r0 r1 r2 => c_ (.agg [.int .u64 r0, .int .i64 r1, .int .i64 r2]) [])
  | _ => false
abbrev F_an_of (S_an_of : TS_an_of) : Fs := mkFs shF_an_of (sp_an_of S_an_of)

def shF_q174 : FnSh := ⟨[.agg [.int .u64, .int .i64, .int .i64]], []⟩
def sp_q174 (S_q174 : TS_q174) : List Atom -> (V -> List Blk -> Bool) -> Bool := fun a_ c_ => match a_ with
  | [.int f_0, .int f_1, .int f_2] => S_q174 f_0 f_1 f_2 (fun r0 => c_ (.int .u64 r0) [])
  | _ => false
abbrev F_q174 (S_q174 : TS_q174) : Fs := mkFs shF_q174 (sp_q174 S_q174)

def shF_q103 : FnSh := ⟨[.agg [.int .u64, .int .i64, .int .i64]], []⟩
def sp_q103 (S_q103 : TS_q103) : List Atom -> (V -> List Blk -> Bool) -> Bool := fun a_ c_ => match a_ with
  | [.int f_0, .int f_1, .int f_2] => S_q103 f_0 f_1 f_2 (fun r0 => c_ (.int .u64 r0) [])
  | _ => false
abbrev F_q103 (S_q103 : TS_q103) : Fs := mkFs shF_q103 (sp_q103 S_q103)

def shF_q102 : FnSh := ⟨[.int .u64, .agg [.int .u64, .int .i64, .int .i64]], []⟩
def sp_q102 (S_q102 : TS_q102) : List Atom -> (V -> List Blk -> Bool) -> Bool := fun a_ c_ => match a_ with
  | [.int b, .int f_0, .int f_1, .int f_2] => S_q102 b f_0 f_1 f_2 (fun r0 => c_ (.bool r0) [])
  | _ => false
abbrev F_q102 (S_q102 : TS_q102) : Fs := mkFs shF_q102 (sp_q102 S_q102)

def shF_q83 : FnSh := ⟨[.agg [.int .u64, .int .i64, .int .i64]], []⟩
def sp_q83 (S_q83 : TS_q83) : List Atom -> (V -> List Blk -> Bool) -> Bool := fun a_ c_ => match a_ with
  | [.int f_0, .int f_1, .int f_2] => S_q83 f_0 f_1 f_2 (fun r0 => c_ (.int .u64 r0) [])
  | _ => false
abbrev F_q83 (S_q83 : TS_q83) : Fs := mkFs shF_q83 (sp_q83 S_q83)

def shF_q185 : FnSh := ⟨[.agg [.int .u64, .int .i64, .int .i64]], []⟩
def sp_q185 (S_q185 : TS_q185) : List Atom -> (V -> List Blk -> Bool) -> Bool := fun a_ c_ => match a_ with
  | [.int f_0, .int f_1, .int f_2] => S_q185 f_0 f_1 f_2 (fun r0 => c_ (.int .u64 r0) [])
  | _ => false
abbrev F_q185 (S_q185 : TS_q185) : Fs := mkFs shF_q185 (sp_q185 S_q185)

def shF_q79 : FnSh := ⟨[.int .u64, .agg [.int .u64, .int .i64, .int .i64]], []⟩
def sp_q79 (S_q79 : TS_q79) : List Atom -> (V -> List Blk -> Bool) -> Bool := fun a_ c_ => match a_ with
  | [.int b, .int f_0, .int f_1, .int f_2] => S_q79 b f_0 f_1 f_2 (fun r0 => c_ (.int .u64 r0) [])
  | _ => false
abbrev F_q79 (S_q79 : TS_q79) : Fs := mkFs shF_q79 (sp_q79 S_q79)

def shF_q29 : FnSh := ⟨[.int .u64, .agg [.int .u64, .int .i64, .int .i64]], []⟩
def sp_q29 (S_q29 : TS_q29) : List Atom -> (V -> List Blk -> Bool) -> Bool := fun a_ c_ => match a_ with
  | [.int b, .int f_0, .int f_1, .int f_2] => S_q29 b f_0 f_1 f_2 (fun r0 r1 r2 => c_ (.tup [.bool r0, .int .i64 r1, .int .u64 r2]) [])
  | _ => false
abbrev F_q29 (S_q29 : TS_q29) : Fs := mkFs shF_q29 (sp_q29 S_q29)

def shF_q28 : FnSh := ⟨[.int .u64, .agg [.int .u64, .int .i64, .int .i64]], []⟩
def sp_q28 (S_q28 : TS_q28) : List Atom -> (V -> List Blk -> Bool) -> Bool := fun a_ c_ => match a_ with
  | [.int b, .int f_0, .int f_1, .int f_2] => S_q28 b f_0 f_1 f_2 (fun r0 => c_ (.int .i64 r0) [])
  | _ => false
abbrev F_q28 (S_q28 : TS_q28) : Fs := mkFs shF_q28 (sp_q28 S_q28)

def shF_q178 : FnSh := ⟨[.fb], []⟩
def sp_q178 (S_q178 : TS_q178) : List Atom -> (V -> List Blk -> Bool) -> Bool := fun a_ c_ => match a_ with
  | [.nat x] => S_q178 x (fun r0 => c_ (.int .i64 r0) [])
  | _ => false
abbrev F_q178 (S_q178 : TS_q178) : Fs := mkFs shF_q178 (sp_q178 S_q178)

def shF_q95 : FnSh := ⟨[.int .u64], []⟩
def sp_q95 (S_q95 : TS_q95) : List Atom -> (V -> List Blk -> Bool) -> Bool := fun a_ c_ => match a_ with
  | [.int a0] => S_q95 a0 (fun r0 => c_ (.flt r0) [])
  | _ => false
abbrev F_q95 (S_q95 : TS_q95) : Fs := mkFs shF_q95 (sp_q95 S_q95)

def shF_q190 : FnSh := ⟨[.fb], []⟩
def sp_q190 (S_q190 : TS_q190) : List Atom -> (V -> List Blk -> Bool) -> Bool := fun a_ c_ => match a_ with
  | [.nat x] => S_q190 x (fun r0 => c_ (.flt r0) [])
  | _ => false
abbrev F_q190 (S_q190 : TS_q190) : Fs := mkFs shF_q190 (sp_q190 S_q190)

def shF_q57 : FnSh := ⟨[.int .u64], []⟩
def sp_q57 (S_q57 : TS_q57) : List Atom -> (V -> List Blk -> Bool) -> Bool := fun a_ c_ => match a_ with
  | [.int b] => S_q57 b (fun r0 => c_ (.flt r0) [])
  | _ => false
abbrev F_q57 (S_q57 : TS_q57) : Fs := mkFs shF_q57 (sp_q57 S_q57)

def shF_q46 : FnSh := ⟨[.agg [.int .u64, .int .u64, .int .u64, .int .u64]], []⟩
def sp_q46 (S_q46 : TS_q46) : List Atom -> (V -> List Blk -> Bool) -> Bool := fun a_ c_ => match a_ with
  | [.int q_0, .int q_1, .int q_2, .int q_3] => S_q46 q_0 q_1 q_2 q_3 (fun r0 r1 r2 r3 => c_ (.agg [.flt r0, .flt r1, .flt r2, .flt r3]) [])
  | _ => false
abbrev F_q46 (S_q46 : TS_q46) : Fs := mkFs shF_q46 (sp_q46 S_q46)

def shF_q50 : FnSh := ⟨[.agg [.int .u64, .int .u64, .int .u64]], []⟩
def sp_q50 (S_q50 : TS_q50) : List Atom -> (V -> List Blk -> Bool) -> Bool := fun a_ c_ => match a_ with
  | [.int v_0, .int v_1, .int v_2] => S_q50 v_0 v_1 v_2 (fun r0 r1 r2 => c_ (.agg [.flt r0, .flt r1, .flt r2]) [])
  | _ => false
abbrev F_q50 (S_q50 : TS_q50) : Fs := mkFs shF_q50 (sp_q50 S_q50)

def shF_q13 : FnSh := ⟨[.rof], []⟩
def sp_q13 (S_q13 : TS_q13) : List Atom -> (V -> List Blk -> Bool) -> Bool := fun a_ c_ => match a_ with
  | [.fls l] => S_q13 l (fun r0 => c_ (.bool r0) [])
  | _ => false
abbrev F_q13 (S_q13 : TS_q13) : Fs := mkFs shF_q13 (sp_q13 S_q13)

def shF_q12 : FnSh := ⟨[.ro 4 [.flt, .flt, .flt, .flt]], []⟩
def sp_q12 (S_q12 : TS_q12) : List Atom -> (V -> List Blk -> Bool) -> Bool := fun a_ c_ => match a_ with
  | [.fl qs_0, .fl qs_1, .fl qs_2, .fl qs_3] => S_q12 qs_0 qs_1 qs_2 qs_3 (fun r0 => c_ (.bool r0) [])
  | _ => false
abbrev F_q12 (S_q12 : TS_q12) : Fs := mkFs shF_q12 (sp_q12 S_q12)

def shF_q49 : FnSh := ⟨[.agg [.flt, .flt, .flt], .agg [.flt, .flt, .flt]], []⟩
def sp_q49 (S_q49 : TS_q49) : List Atom -> (V -> List Blk -> Bool) -> Bool := fun a_ c_ => match a_ with
  | [.fl a_0, .fl a_1, .fl a_2, .fl b_0, .fl b_1, .fl b_2] => S_q49 a_0 a_1 a_2 b_0 b_1 b_2 (fun r0 r1 r2 => c_ (.agg [.flt r0, .flt r1, .flt r2]) [])
  | _ => false
abbrev F_q49 (S_q49 : TS_q49) : Fs := mkFs shF_q49 (sp_q49 S_q49)

def shF_q121 : FnSh := ⟨[.agg [.flt, .flt, .flt]], []⟩
def sp_q121 (S_q121 : TS_q121) : List Atom -> (V -> List Blk -> Bool) -> Bool := fun a_ c_ => match a_ with
  | [.fl v_0, .fl v_1, .fl v_2] => S_q121 v_0 v_1 v_2 (fun r0 r1 r2 r3 => c_ (.tup [.agg [.flt r0, .flt r1, .flt r2], .int .i64 r3]) [])
  | _ => false
abbrev F_q121 (S_q121 : TS_q121) : Fs := mkFs shF_q121 (sp_q121 S_q121)

def shF_q115 : FnSh := ⟨[.agg [.flt, .flt, .flt, .flt], .agg [.flt, .flt, .flt]], []⟩
def sp_q115 (S_q115 : TS_q115) : List Atom -> (V -> List Blk -> Bool) -> Bool := fun a_ c_ => match a_ with
  | [.fl q_0, .fl q_1, .fl q_2, .fl q_3, .fl v_0, .fl v_1, .fl v_2] => S_q115 q_0 q_1 q_2 q_3 v_0 v_1 v_2 (fun r0 r1 r2 r3 => c_ (.tup [.agg [.flt r0, .flt r1, .flt r2], .int .i64 r3]) [])
  | _ => false
abbrev F_q115 (S_q115 : TS_q115) : Fs := mkFs shF_q115 (sp_q115 S_q115)

def shF_q143 : FnSh := ⟨[.agg [.flt, .flt, .flt, .flt]], []⟩
def sp_q143 (S_q143 : TS_q143) : List Atom -> (V -> List Blk -> Bool) -> Bool := fun a_ c_ => match a_ with
  | [.fl q_0, .fl q_1, .fl q_2, .fl q_3] => S_q143 q_0 q_1 q_2 q_3 (fun r0 => c_ (.slw 0) [⟨24, 1, .flts r0⟩])
  | _ => false
abbrev F_q143 (S_q143 : TS_q143) : Fs := mkFs shF_q143 (sp_q143 S_q143)

def shF_q108 : FnSh := ⟨[.flt], []⟩
def sp_q108 (S_q108 : TS_q108) : List Atom -> (V -> List Blk -> Bool) -> Bool := fun a_ c_ => match a_ with
  | [.fl a0] => S_q108 a0 (fun r0 => c_ (.int .u64 r0) [])
  | _ => false
abbrev F_q108 (S_q108 : TS_q108) : Fs := mkFs shF_q108 (sp_q108 S_q108)

def shF_q146 : FnSh := ⟨[.flt], []⟩
def sp_q146 (S_q146 : TS_q146) : List Atom -> (V -> List Blk -> Bool) -> Bool := fun a_ c_ => match a_ with
  | [.fl x] => S_q146 x (fun r0 => c_ (.int .u64 r0) [])
  | _ => false
abbrev F_q146 (S_q146 : TS_q146) : Fs := mkFs shF_q146 (sp_q146 S_q146)

def shF_q163 : FnSh := ⟨[.flt], []⟩
def sp_q163 (S_q163 : TS_q163) : List Atom -> (V -> List Blk -> Bool) -> Bool := fun a_ c_ => match a_ with
  | [.fl x] => S_q163 x (fun r0 r1 r2 => c_ (.tup [.bool r0, .int .i64 r1, .int .u64 r2]) [])
  | _ => false
abbrev F_q163 (S_q163 : TS_q163) : Fs := mkFs shF_q163 (sp_q163 S_q163)

def shF_q127 : FnSh := ⟨[.int .i64, .int .u64, .int .i64], []⟩
def sp_q127 (S_q127 : TS_q127) : List Atom -> (V -> List Blk -> Bool) -> Bool := fun a_ c_ => match a_ with
  | [.int exp, .int frac, .int most] => S_q127 exp frac most (fun r0 => c_ (.int .i64 r0) [])
  | _ => false
abbrev F_q127 (S_q127 : TS_q127) : Fs := mkFs shF_q127 (sp_q127 S_q127)

def shF_q162 : FnSh := ⟨[.flt], []⟩
def sp_q162 (S_q162 : TS_q162) : List Atom -> (V -> List Blk -> Bool) -> Bool := fun a_ c_ => match a_ with
  | [.fl x] => S_q162 x (fun r0 => c_ (.int .i64 r0) [])
  | _ => false
abbrev F_q162 (S_q162 : TS_q162) : Fs := mkFs shF_q162 (sp_q162 S_q162)

def shF_q86 : FnSh := ⟨[.flt], []⟩
def sp_q86 (S_q86 : TS_q86) : List Atom -> (V -> List Blk -> Bool) -> Bool := fun a_ c_ => match a_ with
  | [.fl x] => S_q86 x (fun r0 => c_ (.bool r0) [])
  | _ => false
abbrev F_q86 (S_q86 : TS_q86) : Fs := mkFs shF_q86 (sp_q86 S_q86)

def shF_q52 : FnSh := ⟨[.rof], []⟩
def sp_q52 (S_q52 : TS_q52) : List Atom -> (V -> List Blk -> Bool) -> Bool := fun a_ c_ => match a_ with
  | [.fls l] => S_q52 l (fun r0 => c_ (.bool r0) [])
  | _ => false
abbrev F_q52 (S_q52 : TS_q52) : Fs := mkFs shF_q52 (sp_q52 S_q52)

def shF_q87 : FnSh := ⟨[.agg [.flt, .flt, .flt, .flt]], []⟩
def sp_q87 (S_q87 : TS_q87) : List Atom -> (V -> List Blk -> Bool) -> Bool := fun a_ c_ => match a_ with
  | [.fl q_0, .fl q_1, .fl q_2, .fl q_3] => S_q87 q_0 q_1 q_2 q_3 (fun r0 => c_ (.bool r0) [])
  | _ => false
abbrev F_q87 (S_q87 : TS_q87) : Fs := mkFs shF_q87 (sp_q87 S_q87)

def shF_q14 : FnSh := ⟨[.agg [.flt, .flt, .flt]], []⟩
def sp_q14 (S_q14 : TS_q14) : List Atom -> (V -> List Blk -> Bool) -> Bool := fun a_ c_ => match a_ with
  | [.fl v_0, .fl v_1, .fl v_2] => S_q14 v_0 v_1 v_2 (fun r0 => c_ (.bool r0) [])
  | _ => false
abbrev F_q14 (S_q14 : TS_q14) : Fs := mkFs shF_q14 (sp_q14 S_q14)

def shF_q23 : FnSh := ⟨[.ro 1 [.bool, .bool]], []⟩
def sp_q23 (S_q23 : TS_q23) : List Atom -> (V -> List Blk -> Bool) -> Bool := fun a_ c_ => match a_ with
  | [.bool ok_0, .bool ok_1] => S_q23 ok_0 ok_1 (fun r0 => c_ (.int .i64 r0) [])
  | _ => false
abbrev F_q23 (S_q23 : TS_q23) : Fs := mkFs shF_q23 (sp_q23 S_q23)

def shF_q66 : FnSh := ⟨[.agg [.flt, .flt, .flt], .agg [.flt, .flt, .flt]], []⟩
def sp_q66 (S_q66 : TS_q66) : List Atom -> (V -> List Blk -> Bool) -> Bool := fun a_ c_ => match a_ with
  | [.fl a_0, .fl a_1, .fl a_2, .fl b_0, .fl b_1, .fl b_2] => S_q66 a_0 a_1 a_2 b_0 b_1 b_2 (fun r0 r1 r2 => c_ (.agg [.flt r0, .flt r1, .flt r2]) [])
  | _ => false
abbrev F_q66 (S_q66 : TS_q66) : Fs := mkFs shF_q66 (sp_q66 S_q66)

def shF_q71 : FnSh := ⟨[.agg [.flt, .flt, .flt]], []⟩
def sp_q71 (S_q71 : TS_q71) : List Atom -> (V -> List Blk -> Bool) -> Bool := fun a_ c_ => match a_ with
  | [.fl v_0, .fl v_1, .fl v_2] => S_q71 v_0 v_1 v_2 (fun r0 r1 r2 r3 => c_ (.tup [.agg [.flt r0, .flt r1, .flt r2], .int .i64 r3]) [])
  | _ => false
abbrev F_q71 (S_q71 : TS_q71) : Fs := mkFs shF_q71 (sp_q71 S_q71)

def shF_q157 : FnSh := ⟨[.agg [.flt, .flt, .flt, .flt], .agg [.flt, .flt, .flt]], []⟩
def sp_q157 (S_q157 : TS_q157) : List Atom -> (V -> List Blk -> Bool) -> Bool := fun a_ c_ => match a_ with
  | [.fl q_0, .fl q_1, .fl q_2, .fl q_3, .fl v_0, .fl v_1, .fl v_2] => S_q157 q_0 q_1 q_2 q_3 v_0 v_1 v_2 (fun r0 r1 r2 r3 => c_ (.tup [.agg [.flt r0, .flt r1, .flt r2], .int .i64 r3]) [])
  | _ => false
abbrev F_q157 (S_q157 : TS_q157) : Fs := mkFs shF_q157 (sp_q157 S_q157)

def shF_q34 : FnSh := ⟨[.flt, .flt], []⟩
def sp_q34 (S_q34 : TS_q34) : List Atom -> (V -> List Blk -> Bool) -> Bool := fun a_ c_ => match a_ with
  | [.fl a, .fl b] => S_q34 a b (fun r0 => c_ (.bool r0) [])
  | _ => false
abbrev F_q34 (S_q34 : TS_q34) : Fs := mkFs shF_q34 (sp_q34 S_q34)

def shF_q54 : FnSh := ⟨[.agg [.flt, .flt, .flt], .int .i64, .agg [.flt, .flt, .flt], .int .i64], []⟩
def sp_q54 (S_q54 : TS_q54) : List Atom -> (V -> List Blk -> Bool) -> Bool := fun a_ c_ => match a_ with
  | [.fl a_0, .fl a_1, .fl a_2, .int e, .fl b_0, .fl b_1, .fl b_2, .int n] => S_q54 a_0 a_1 a_2 e b_0 b_1 b_2 n (fun r0 => c_ (.bool r0) [])
  | _ => false
abbrev F_q54 (S_q54 : TS_q54) : Fs := mkFs shF_q54 (sp_q54 S_q54)

def shF_q30 : FnSh := ⟨[.agg [.flt, .flt, .flt, .flt]], []⟩
def sp_q30 (S_q30 : TS_q30) : List Atom -> (V -> List Blk -> Bool) -> Bool := fun a_ c_ => match a_ with
  | [.fl q_0, .fl q_1, .fl q_2, .fl q_3] => S_q30 q_0 q_1 q_2 q_3 (c_ (.agg [.flt q_0, .flt q_1, .flt q_2, .flt q_3]) [])
  | _ => false
abbrev F_q30 (S_q30 : TS_q30) : Fs := mkFs shF_q30 (sp_q30 S_q30)

def shF_m_Abs : FnSh := ⟨[.flt], []⟩
def sp_m_Abs (S_m_Abs : TS_m_Abs) : List Atom -> (V -> List Blk -> Bool) -> Bool := fun a_ c_ => match a_ with
  | [.fl x] => S_m_Abs x (fun r0 => c_ (.flt r0) [])
  | _ => false
abbrev F_m_Abs (S_m_Abs : TS_m_Abs) : Fs := mkFs shF_m_Abs (sp_m_Abs S_m_Abs)

def shF_q140 : FnSh := ⟨[.flt, .int .i64], []⟩
def sp_q140 (S_q140 : TS_q140) : List Atom -> (V -> List Blk -> Bool) -> Bool := fun a_ c_ => match a_ with
  | [.fl f, .int sign] => S_q140 f sign (fun r0 => c_ (.bool r0) [])
  | _ => false
abbrev F_q140 (S_q140 : TS_q140) : Fs := mkFs shF_q140 (sp_q140 S_q140)

def shF_q147 : FnSh := ⟨[.flt], []⟩
def sp_q147 (S_q147 : TS_q147) : List Atom -> (V -> List Blk -> Bool) -> Bool := fun a_ c_ => match a_ with
  | [.fl f] => S_q147 f (fun r0 => c_ (.bool r0) [])
  | _ => false
abbrev F_q147 (S_q147 : TS_q147) : Fs := mkFs shF_q147 (sp_q147 S_q147)

def shF_q70 : FnSh := ⟨[.flt], []⟩
def sp_q70 (S_q70 : TS_q70) : List Atom -> (V -> List Blk -> Bool) -> Bool := fun a_ c_ => match a_ with
  | [.fl x] => S_q70 x (fun r0 r1 => c_ (.tup [.flt r0, .int .i64 r1]) [])
  | _ => false
abbrev F_q70 (S_q70 : TS_q70) : Fs := mkFs shF_q70 (sp_q70 S_q70)

def shF_q186 : FnSh := ⟨[.flt], []⟩
def sp_q186 (S_q186 : TS_q186) : List Atom -> (V -> List Blk -> Bool) -> Bool := fun a_ c_ => match a_ with
  | [.fl f] => S_q186 f (fun r0 r1 => c_ (.tup [.flt r0, .int .i64 r1]) [])
  | _ => false
abbrev F_q186 (S_q186 : TS_q186) : Fs := mkFs shF_q186 (sp_q186 S_q186)

def shF_q100 : FnSh := ⟨[.flt], []⟩
def sp_q100 (S_q100 : TS_q100) : List Atom -> (V -> List Blk -> Bool) -> Bool := fun a_ c_ => match a_ with
  | [.fl f] => S_q100 f (fun r0 r1 => c_ (.tup [.flt r0, .int .i64 r1]) [])
  | _ => false
abbrev F_q100 (S_q100 : TS_q100) : Fs := mkFs shF_q100 (sp_q100 S_q100)

def shF_q116 : FnSh := ⟨[.flt, .flt], []⟩
def sp_q116 (S_q116 : TS_q116) : List Atom -> (V -> List Blk -> Bool) -> Bool := fun a_ c_ => match a_ with
  | [.fl f, .fl sign] => S_q116 f sign (fun r0 => c_ (.flt r0) [])
  | _ => false
abbrev F_q116 (S_q116 : TS_q116) : Fs := mkFs shF_q116 (sp_q116 S_q116)

def shF_m_Inf : FnSh := ⟨[.int .i64], []⟩
def sp_m_Inf (S_m_Inf : TS_m_Inf) : List Atom -> (V -> List Blk -> Bool) -> Bool := fun a_ c_ => match a_ with
  | [.int sign] => S_m_Inf sign (fun r0 => c_ (.flt r0) [])
  | _ => false
abbrev F_m_Inf (S_m_Inf : TS_m_Inf) : Fs := mkFs shF_m_Inf (sp_m_Inf S_m_Inf)

def shF_q182 : FnSh := ⟨[.flt, .int .i64], []⟩
def sp_q182 (S_q182 : TS_q182) : List Atom -> (V -> List Blk -> Bool) -> Bool := fun a_ c_ => match a_ with
  | [.fl frac, .int exp] => S_q182 frac exp (fun r0 => c_ (.flt r0) [])
  | _ => false
abbrev F_q182 (S_q182 : TS_q182) : Fs := mkFs shF_q182 (sp_q182 S_q182)

def shF_q118 : FnSh := ⟨[.flt, .int .i64], []⟩
def sp_q118 (S_q118 : TS_q118) : List Atom -> (V -> List Blk -> Bool) -> Bool := fun a_ c_ => match a_ with
  | [.fl frac, .int exp] => S_q118 frac exp (fun r0 => c_ (.flt r0) [])
  | _ => false
abbrev F_q118 (S_q118 : TS_q118) : Fs := mkFs shF_q118 (sp_q118 S_q118)

def shF_q196 : FnSh := ⟨[.flt], []⟩
def sp_q196 (S_q196 : TS_q196) : List Atom -> (V -> List Blk -> Bool) -> Bool := fun a_ c_ => match a_ with
  | [.fl a0] => S_q196 a0 (fun r0 => c_ (.flt r0) [])
  | _ => false
abbrev F_q196 (S_q196 : TS_q196) : Fs := mkFs shF_q196 (sp_q196 S_q196)

def shF_q120 : FnSh := ⟨[.flt], []⟩
def sp_q120 (S_q120 : TS_q120) : List Atom -> (V -> List Blk -> Bool) -> Bool := fun a_ c_ => match a_ with
  | [.fl x] => S_q120 x (fun r0 => c_ (.flt r0) [])
  | _ => false
abbrev F_q120 (S_q120 : TS_q120) : Fs := mkFs shF_q120 (sp_q120 S_q120)

def shF_q160 : FnSh := ⟨[.agg [.flt, .flt, .flt, .flt]], []⟩
def sp_q160 (S_q160 : TS_q160) : List Atom -> (V -> List Blk -> Bool) -> Bool := fun a_ c_ => match a_ with
  | [.fl l_0, .fl l_1, .fl l_2, .fl l_3] => S_q160 l_0 l_1 l_2 l_3 (c_ (.agg [.flt l_0, .flt l_1, .flt l_2, .flt l_3]) [])
  | _ => false
abbrev F_q160 (S_q160 : TS_q160) : Fs := mkFs shF_q160 (sp_q160 S_q160)

def shF_q63 : FnSh := ⟨[.agg [.flt, .flt, .flt, .flt]], []⟩
def sp_q63 (S_q63 : TS_q63) : List Atom -> (V -> List Blk -> Bool) -> Bool := fun a_ c_ => match a_ with
  | [.fl q_0, .fl q_1, .fl q_2, .fl q_3] => S_q63 q_0 q_1 q_2 q_3 (fun r0 r1 r2 r3 r4 => c_ (.tup [.agg [.flt r0, .flt r1, .flt r2, .flt r3], .int .i64 r4]) [])
  | _ => false
abbrev F_q63 (S_q63 : TS_q63) : Fs := mkFs shF_q63 (sp_q63 S_q63)

def shF_q129 : FnSh := ⟨[.ro 4 [.flt, .flt, .flt, .flt, .flt, .flt, .flt, .flt]], []⟩
def sp_q129 (S_q129 : TS_q129) : List Atom -> (V -> List Blk -> Bool) -> Bool := fun a_ c_ => match a_ with
  | [.fl qs_0, .fl qs_1, .fl qs_2, .fl qs_3, .fl qs_4, .fl qs_5, .fl qs_6, .fl qs_7] => S_q129 qs_0 qs_1 qs_2 qs_3 qs_4 qs_5 qs_6 qs_7 (fun r0 => c_ (.bool r0) [])
  | _ => false
abbrev F_q129 (S_q129 : TS_q129) : Fs := mkFs shF_q129 (sp_q129 S_q129)

def shF_q181 : FnSh := ⟨[.agg [.flt, .flt, .flt, .flt], .agg [.flt, .flt, .flt, .flt]], []⟩
def sp_q181 (S_q181 : TS_q181) : List Atom -> (V -> List Blk -> Bool) -> Bool := fun a_ c_ => match a_ with
  | [.fl a_0, .fl a_1, .fl a_2, .fl a_3, .fl b_0, .fl b_1, .fl b_2, .fl b_3] => S_q181 a_0 a_1 a_2 a_3 b_0 b_1 b_2 b_3 (fun r0 r1 r2 r3 => c_ (.agg [.flt r0, .flt r1, .flt r2, .flt r3]) [])
  | _ => false
abbrev F_q181 (S_q181 : TS_q181) : Fs := mkFs shF_q181 (sp_q181 S_q181)

def shF_q161 : FnSh := ⟨[.agg [.flt, .flt, .flt, .flt]], []⟩
def sp_q161 (S_q161 : TS_q161) : List Atom -> (V -> List Blk -> Bool) -> Bool := fun a_ c_ => match a_ with
  | [.fl q_0, .fl q_1, .fl q_2, .fl q_3] => S_q161 q_0 q_1 q_2 q_3 (fun r0 r1 r2 r3 r4 => c_ (.tup [.agg [.flt r0, .flt r1, .flt r2, .flt r3], .int .i64 r4]) [])
  | _ => false
abbrev F_q161 (S_q161 : TS_q161) : Fs := mkFs shF_q161 (sp_q161 S_q161)

def shF_q180 : FnSh := ⟨[.agg [.flt, .flt, .flt, .flt], .agg [.flt, .flt, .flt, .flt]], []⟩
def sp_q180 (S_q180 : TS_q180) : List Atom -> (V -> List Blk -> Bool) -> Bool := fun a_ c_ => match a_ with
  | [.fl a_0, .fl a_1, .fl a_2, .fl a_3, .fl b_0, .fl b_1, .fl b_2, .fl b_3] => S_q180 a_0 a_1 a_2 a_3 b_0 b_1 b_2 b_3 (fun r0 r1 r2 r3 r4 => c_ (.tup [.agg [.flt r0, .flt r1, .flt r2, .flt r3], .int .i64 r4]) [])
  | _ => false
abbrev F_q180 (S_q180 : TS_q180) : Fs := mkFs shF_q180 (sp_q180 S_q180)

def shF_q159 : FnSh := ⟨[.flt], []⟩
def sp_q159 (S_q159 : TS_q159) : List Atom -> (V -> List Blk -> Bool) -> Bool := fun a_ c_ => match a_ with
  | [.fl x] => S_q159 x (fun r0 => c_ (.int .i64 r0) [])
  | _ => false
abbrev F_q159 (S_q159 : TS_q159) : Fs := mkFs shF_q159 (sp_q159 S_q159)

def shF_q97 : FnSh := ⟨[.rof], []⟩
def sp_q97 (S_q97 : TS_q97) : List Atom -> (V -> List Blk -> Bool) -> Bool := fun a_ c_ => match a_ with
  | [.fls l] => S_q97 l (fun r0 => c_ (.bool r0) [])
  | _ => false
abbrev F_q97 (S_q97 : TS_q97) : Fs := mkFs shF_q97 (sp_q97 S_q97)

def shF_q7 : FnSh := ⟨[.int .u64], []⟩
def sp_q7 (S_q7 : TS_q7) : List Atom -> (V -> List Blk -> Bool) -> Bool := fun a_ c_ => match a_ with
  | [.int x] => S_q7 x (fun r0 => c_ (.int .i64 r0) [])
  | _ => false
abbrev F_q7 (S_q7 : TS_q7) : Fs := mkFs shF_q7 (sp_q7 S_q7)

def shF_q75 : FnSh := ⟨[.int .u64, .agg [.int .u64, .int .i64, .int .i64]], []⟩
def sp_q75 (S_q75 : TS_q75) : List Atom -> (V -> List Blk -> Bool) -> Bool := fun a_ c_ => match a_ with
  | [.int b, .int f_0, .int f_1, .int f_2] => S_q75 b f_0 f_1 f_2 (fun r0 r1 r2 r3 => c_ (.tup [.agg [.bool r0, .int .u64 r1, .int .i64 r2], .int .i64 r3]) [])
  | _ => false
abbrev F_q75 (S_q75 : TS_q75) : Fs := mkFs shF_q75 (sp_q75 S_q75)

def shF_q179 : FnSh := ⟨[.flt], []⟩
def sp_q179 (S_q179 : TS_q179) : List Atom -> (V -> List Blk -> Bool) -> Bool := fun a_ c_ => match a_ with
  | [.fl x] => S_q179 x (fun r0 r1 r2 r3 => c_ (.tup [.agg [.bool r0, .int .u64 r1, .int .i64 r2], .int .i64 r3]) [])
  | _ => false
abbrev F_q179 (S_q179 : TS_q179) : Fs := mkFs shF_q179 (sp_q179 S_q179)

def shF_q1 : FnSh := ⟨[.slw 0], [some (41, 1, .ints .u64)]⟩
def sp_q1 (S_q1 : TS_q1) : List Atom -> (V -> List Blk -> Bool) -> Bool := fun a_ c_ => match a_ with
  | [.ints b] => S_q1 b (fun r0 r1 => c_ (.sl 0 r0 r1) [⟨41, 1, .ints .u64 b⟩])
  | _ => false
abbrev F_q1 (S_q1 : TS_q1) : Fs := mkFs shF_q1 (sp_q1 S_q1)

def shF_q150 : FnSh := ⟨[.int .u64], []⟩
def sp_q150 (S_q150 : TS_q150) : List Atom -> (V -> List Blk -> Bool) -> Bool := fun a_ c_ => match a_ with
  | [.int n] => S_q150 n (fun r0 => c_ (.roi .u64 r0) [])
  | _ => false
abbrev F_q150 (S_q150 : TS_q150) : Fs := mkFs shF_q150 (sp_q150 S_q150)

def shF_q0 : FnSh := ⟨[.ptr 0 0, .bool, .roi .u64], [some (164, 1, .cells [.bool, .nil])]⟩
def sp_q0 (S_q0 : TS_q0) : List Atom -> (V -> List Blk -> Bool) -> Bool := fun a_ c_ => match a_ with
  | [.bool neg, .ints abs, .bool b] => S_q0 neg abs b (fun r0 => c_ (.ptr 0 0) [⟨164, 1, .cells [.bool r0, .roi .u64 abs]⟩])
  | _ => false
abbrev F_q0 (S_q0 : TS_q0) : Fs := mkFs shF_q0 (sp_q0 S_q0)

def shF_q56 : FnSh := ⟨[.ptr 0 0, .int .u64], [some (164, 1, .cells [.bool, .nil])]⟩
def sp_q56 (S_q56 : TS_q56) : List Atom -> (V -> List Blk -> Bool) -> Bool := fun a_ c_ => match a_ with
  | [.int n, .bool b] => S_q56 n b (fun r0 r1 => c_ (.ptr 0 0) [⟨164, 1, .cells [.bool r0, .roi .u64 r1]⟩])
  | _ => false
abbrev F_q56 (S_q56 : TS_q56) : Fs := mkFs shF_q56 (sp_q56 S_q56)

def shF_q85 : FnSh := ⟨[.roi .u64], []⟩
def sp_q85 (S_q85 : TS_q85) : List Atom -> (V -> List Blk -> Bool) -> Bool := fun a_ c_ => match a_ with
  | [.ints x] => S_q85 x (fun r0 => c_ (.roi .u64 r0) [])
  | _ => false
abbrev F_q85 (S_q85 : TS_q85) : Fs := mkFs shF_q85 (sp_q85 S_q85)

def shF_q32 : FnSh := ⟨[.ptr 0 0, .bool, .roi .u64], [some (164, 1, .cells [.bool, .roi .u64])]⟩
def sp_q32 (S_q32 : TS_q32) : List Atom -> (V -> List Blk -> Bool) -> Bool := fun a_ c_ => match a_ with
  | [.bool neg, .ints abs, .bool b, .ints b_1] => S_q32 neg abs b b_1 (fun r0 => c_ (.ptr 0 0) [⟨164, 1, .cells [.bool r0, .roi .u64 abs]⟩])
  | _ => false
abbrev F_q32 (S_q32 : TS_q32) : Fs := mkFs shF_q32 (sp_q32 S_q32)

def shF_q26 : FnSh := ⟨[.ptr 0 0, .ptr 0 0], [some (164, 1, .cells [.bool, .roi .u64])]⟩
def sp_q26 (S_q26 : TS_q26) : List Atom -> (V -> List Blk -> Bool) -> Bool := fun a_ c_ => match a_ with
  | [.bool b, .ints b_1] => S_q26 b b_1 (fun r0 r1 => c_ (.ptr 0 0) [⟨164, 1, .cells [.bool r0, .roi .u64 r1]⟩])
  | _ => false
abbrev F_q26 (S_q26 : TS_q26) : Fs := mkFs shF_q26 (sp_q26 S_q26)

def shF_q171 : FnSh := ⟨[.flt], []⟩
def sp_q171 (S_q171 : TS_q171) : List Atom -> (V -> List Blk -> Bool) -> Bool := fun a_ c_ => match a_ with
  | [.fl x] => S_q171 x (fun r0 r1 r2 => c_ (.agg [.ptr 0 0, .int .i64 r0]) [⟨164, 1, .cells [.bool r1, .roi .u64 r2]⟩])
  | _ => false
abbrev F_q171 (S_q171 : TS_q171) : Fs := mkFs shF_q171 (sp_q171 S_q171)

def shF_q131 : FnSh := ⟨[.int .u64, .int .u64], []⟩
def sp_q131 (S_q131 : TS_q131) : List Atom -> (V -> List Blk -> Bool) -> Bool := fun a_ c_ => match a_ with
  | [.int x, .int y] => S_q131 x y (fun r0 r1 => c_ (.tup [.int .u64 r0, .int .u64 r1]) [])
  | _ => false
abbrev F_q131 (S_q131 : TS_q131) : Fs := mkFs shF_q131 (sp_q131 S_q131)

def shF_q74 : FnSh := ⟨[.int .u64, .int .u64, .int .u64], []⟩
def sp_q74 (S_q74 : TS_q74) : List Atom -> (V -> List Blk -> Bool) -> Bool := fun a_ c_ => match a_ with
  | [.int a0, .int a1, .int a2] => S_q74 a0 a1 a2 (fun r0 r1 => c_ (.tup [.int .u64 r0, .int .u64 r1]) [])
  | _ => false
abbrev F_q74 (S_q74 : TS_q74) : Fs := mkFs shF_q74 (sp_q74 S_q74)

def shF_q123 : FnSh := ⟨[.int .u64, .int .u64, .int .u64, .int .u64], []⟩
def sp_q123 (S_q123 : TS_q123) : List Atom -> (V -> List Blk -> Bool) -> Bool := fun a_ c_ => match a_ with
  | [.int a, .int b, .int c, .int d] => S_q123 a b c d (fun r0 r1 => c_ (.tup [.int .u64 r0, .int .u64 r1]) [])
  | _ => false
abbrev F_q123 (S_q123 : TS_q123) : Fs := mkFs shF_q123 (sp_q123 S_q123)

def shF_q155 : FnSh := ⟨[.roi .u64, .roi .u64], []⟩
def sp_q155 (S_q155 : TS_q155) : List Atom -> (V -> List Blk -> Bool) -> Bool := fun a_ c_ => match a_ with
  | [.ints x, .ints y] => S_q155 x y (fun r0 => c_ (.roi .u64 r0) [])
  | _ => false
abbrev F_q155 (S_q155 : TS_q155) : Fs := mkFs shF_q155 (sp_q155 S_q155)

def shF_q55 : FnSh := ⟨[.ptr 0 0, .ptr 1 0, .ptr 2 0], [some (164, 1, .cells [.bool, .nil]), some (164, 1, .cells [.bool, .roi .u64]), some (164, 1, .cells [.bool, .roi .u64])]⟩
def sp_q55 (S_q55 : TS_q55) : List Atom -> (V -> List Blk -> Bool) -> Bool := fun a_ c_ => match a_ with
  | [.bool b, .bool b_1, .ints b_2, .bool b_3, .ints b_4] => S_q55 b b_1 b_2 b_3 b_4 (fun r0 r1 => c_ (.ptr 0 0) [⟨164, 1, .cells [.bool r0, .roi .u64 r1]⟩, ⟨164, 1, .cells [.bool b_1, .roi .u64 b_2]⟩, ⟨164, 1, .cells [.bool b_3, .roi .u64 b_4]⟩])
  | _ => false
abbrev F_q55 (S_q55 : TS_q55) : Fs := mkFs shF_q55 (sp_q55 S_q55)

def shF_q20 : FnSh := ⟨[.agg [.ptr 0 0, .int .i64], .agg [.ptr 1 0, .int .i64]], [some (164, 1, .cells [.bool, .roi .u64]), some (164, 1, .cells [.bool, .roi .u64])]⟩
def sp_q20 (S_q20 : TS_q20) : List Atom -> (V -> List Blk -> Bool) -> Bool := fun a_ c_ => match a_ with
  | [.int x, .int y, .bool b, .ints b_1, .bool b_2, .ints b_3] => S_q20 x y b b_1 b_2 b_3 (fun r0 r5 r6 => c_ (.agg [.ptr 2 0, .int .i64 r0]) [⟨164, 1, .cells [.bool b, .roi .u64 b_1]⟩, ⟨164, 1, .cells [.bool b_2, .roi .u64 b_3]⟩, ⟨164, 1, .cells [.bool r5, .roi .u64 r6]⟩])
  | _ => false
abbrev F_q20 (S_q20 : TS_q20) : Fs := mkFs shF_q20 (sp_q20 S_q20)

def shF_q84 : FnSh := ⟨[.ptr 0 0], [some (164, 1, .cells [.bool, .nil])]⟩
def sp_q84 (S_q84 : TS_q84) : List Atom -> (V -> List Blk -> Bool) -> Bool := fun a_ c_ => match a_ with
  | [.bool b] => S_q84 b (fun r0 r2 => c_ (.int .i64 r0) [⟨164, 1, .cells [.bool b, .roi .u64 r2]⟩])
  | _ => false
abbrev F_q84 (S_q84 : TS_q84) : Fs := mkFs shF_q84 (sp_q84 S_q84)

def shF_q4 : FnSh := ⟨[.ptr 0 0], [some (164, 1, .cells [.bool, .roi .u64])]⟩
def sp_q4 (S_q4 : TS_q4) : List Atom -> (V -> List Blk -> Bool) -> Bool := fun a_ c_ => match a_ with
  | [.bool b, .ints b_1] => S_q4 b b_1 (fun r0 => c_ (.int .i64 r0) [⟨164, 1, .cells [.bool b, .roi .u64 b_1]⟩])
  | _ => false
abbrev F_q4 (S_q4 : TS_q4) : Fs := mkFs shF_q4 (sp_q4 S_q4)

def shF_q124 : FnSh := ⟨[.roi .u64, .int .u64], []⟩
def sp_q124 (S_q124 : TS_q124) : List Atom -> (V -> List Blk -> Bool) -> Bool := fun a_ c_ => match a_ with
  | [.ints x, .int n] => S_q124 x n (fun r0 => c_ (.roi .u64 r0) [])
  | _ => false
abbrev F_q124 (S_q124 : TS_q124) : Fs := mkFs shF_q124 (sp_q124 S_q124)

def shF_q72 : FnSh := ⟨[.ptr 0 0, .ptr 1 0, .int .u64], [some (164, 1, .cells [.bool, .nil]), some (164, 1, .cells [.bool, .roi .u64])]⟩
def sp_q72 (S_q72 : TS_q72) : List Atom -> (V -> List Blk -> Bool) -> Bool := fun a_ c_ => match a_ with
  | [.int n, .bool b, .bool b_1, .ints b_2] => S_q72 n b b_1 b_2 (fun r0 r1 => c_ (.ptr 0 0) [⟨164, 1, .cells [.bool r0, .roi .u64 r1]⟩, ⟨164, 1, .cells [.bool b_1, .roi .u64 b_2]⟩])
  | _ => false
abbrev F_q72 (S_q72 : TS_q72) : Fs := mkFs shF_q72 (sp_q72 S_q72)

def shF_q35 : FnSh := ⟨[.agg [.ptr 0 0, .int .i64], .int .i64], [some (164, 1, .cells [.bool, .roi .u64])]⟩
def sp_q35 (S_q35 : TS_q35) : List Atom -> (V -> List Blk -> Bool) -> Bool := fun a_ c_ => match a_ with
  | [.int x, .int e, .bool b, .ints b_1] => S_q35 x e b b_1 (fun r2 r3 => c_ (.ptr 1 0) [⟨164, 1, .cells [.bool b, .roi .u64 b_1]⟩, ⟨164, 1, .cells [.bool r2, .roi .u64 r3]⟩])
  | _ => false
abbrev F_q35 (S_q35 : TS_q35) : Fs := mkFs shF_q35 (sp_q35 S_q35)

def shF_q18 : FnSh := ⟨[.roi .u64, .int .i64], []⟩
def sp_q18 (S_q18 : TS_q18) : List Atom -> (V -> List Blk -> Bool) -> Bool := fun a_ c_ => match a_ with
  | [.ints x, .int i] => S_q18 x i (fun r0 => c_ (.int .u64 r0) [])
  | _ => false
abbrev F_q18 (S_q18 : TS_q18) : Fs := mkFs shF_q18 (sp_q18 S_q18)

def shF_q170 : FnSh := ⟨[.roi .u64, .roi .u64], []⟩
def sp_q170 (S_q170 : TS_q170) : List Atom -> (V -> List Blk -> Bool) -> Bool := fun a_ c_ => match a_ with
  | [.ints x, .ints y] => S_q170 x y (fun r0 => c_ (.roi .u64 r0) [])
  | _ => false
abbrev F_q170 (S_q170 : TS_q170) : Fs := mkFs shF_q170 (sp_q170 S_q170)

def shF_q136 : FnSh := ⟨[.roi .u64, .roi .u64], []⟩
def sp_q136 (S_q136 : TS_q136) : List Atom -> (V -> List Blk -> Bool) -> Bool := fun a_ c_ => match a_ with
  | [.ints x, .ints y] => S_q136 x y (fun r0 => c_ (.int .i64 r0) [])
  | _ => false
abbrev F_q136 (S_q136 : TS_q136) : Fs := mkFs shF_q136 (sp_q136 S_q136)

def shF_q110 : FnSh := ⟨[.int .u64, .int .u64, .int .u64], []⟩
def sp_q110 (S_q110 : TS_q110) : List Atom -> (V -> List Blk -> Bool) -> Bool := fun a_ c_ => match a_ with
  | [.int a0, .int a1, .int a2] => S_q110 a0 a1 a2 (fun r0 r1 => c_ (.tup [.int .u64 r0, .int .u64 r1]) [])
  | _ => false
abbrev F_q110 (S_q110 : TS_q110) : Fs := mkFs shF_q110 (sp_q110 S_q110)

def shF_q176 : FnSh := ⟨[.roi .u64, .roi .u64], []⟩
def sp_q176 (S_q176 : TS_q176) : List Atom -> (V -> List Blk -> Bool) -> Bool := fun a_ c_ => match a_ with
  | [.ints x, .ints y] => S_q176 x y (fun r0 => c_ (.roi .u64 r0) [])
  | _ => false
abbrev F_q176 (S_q176 : TS_q176) : Fs := mkFs shF_q176 (sp_q176 S_q176)

def shF_q67 : FnSh := ⟨[.ptr 0 0, .ptr 1 0, .bool, .roi .u64], [some (164, 1, .cells [.bool, .nil]), some (164, 1, .cells [.bool, .roi .u64])]⟩
def sp_q67 (S_q67 : TS_q67) : List Atom -> (V -> List Blk -> Bool) -> Bool := fun a_ c_ => match a_ with
  | [.bool neg, .ints y, .bool b, .bool b_1, .ints b_2] => S_q67 neg y b b_1 b_2 (fun r0 r1 => c_ (.ptr 0 0) [⟨164, 1, .cells [.bool r0, .roi .u64 r1]⟩, ⟨164, 1, .cells [.bool b_1, .roi .u64 b_2]⟩])
  | _ => false
abbrev F_q67 (S_q67 : TS_q67) : Fs := mkFs shF_q67 (sp_q67 S_q67)

def shF_q27 : FnSh := ⟨[.ptr 0 0, .ptr 1 0, .ptr 2 0], [some (164, 1, .cells [.bool, .nil]), some (164, 1, .cells [.bool, .roi .u64]), some (164, 1, .cells [.bool, .roi .u64])]⟩
def sp_q27 (S_q27 : TS_q27) : List Atom -> (V -> List Blk -> Bool) -> Bool := fun a_ c_ => match a_ with
  | [.bool b, .bool b_1, .ints b_2, .bool b_3, .ints b_4] => S_q27 b b_1 b_2 b_3 b_4 (fun r0 r1 => c_ (.ptr 0 0) [⟨164, 1, .cells [.bool r0, .roi .u64 r1]⟩, ⟨164, 1, .cells [.bool b_1, .roi .u64 b_2]⟩, ⟨164, 1, .cells [.bool b_3, .roi .u64 b_4]⟩])
  | _ => false
abbrev F_q27 (S_q27 : TS_q27) : Fs := mkFs shF_q27 (sp_q27 S_q27)

def shF_q19 : FnSh := ⟨[.agg [.ptr 0 0, .int .i64], .agg [.ptr 1 0, .int .i64]], [some (164, 1, .cells [.bool, .nil]), some (164, 1, .cells [.bool, .roi .u64])]⟩
def sp_q19 (S_q19 : TS_q19) : List Atom -> (V -> List Blk -> Bool) -> Bool := fun a_ c_ => match a_ with
  | [.int x, .int y, .bool b, .bool b_1, .ints b_2] => S_q19 x y b b_1 b_2 (fun r2 => c_ (.agg [.ptr 1 0, .int .i64 y]) [⟨164, 1, .cells [.bool b, .roi .u64 r2]⟩, ⟨164, 1, .cells [.bool b_1, .roi .u64 b_2]⟩]) (fun r2 => c_ (.agg [.ptr 0 0, .int .i64 x]) [⟨164, 1, .cells [.bool b, .roi .u64 r2]⟩, ⟨164, 1, .cells [.bool b_1, .roi .u64 b_2]⟩]) (fun r0 r2 r5 r6 => c_ (.agg [.ptr 2 0, .int .i64 r0]) [⟨164, 1, .cells [.bool b, .roi .u64 r2]⟩, ⟨164, 1, .cells [.bool b_1, .roi .u64 b_2]⟩, ⟨164, 1, .cells [.bool r5, .roi .u64 r6]⟩])
  | _ => false
abbrev F_q19 (S_q19 : TS_q19) : Fs := mkFs shF_q19 (sp_q19 S_q19)

def shF_q3 : FnSh := ⟨[.agg [.ptr 0 0, .int .i64], .agg [.ptr 1 0, .int .i64]], [some (164, 1, .cells [.bool, .roi .u64]), some (164, 1, .cells [.bool, .roi .u64])]⟩
def sp_q3 (S_q3 : TS_q3) : List Atom -> (V -> List Blk -> Bool) -> Bool := fun a_ c_ => match a_ with
  | [.int x, .int y, .bool b, .ints b_1, .bool b_2, .ints b_3] => S_q3 x y b b_1 b_2 b_3 (c_ (.agg [.ptr 1 0, .int .i64 y]) [⟨164, 1, .cells [.bool b, .roi .u64 b_1]⟩, ⟨164, 1, .cells [.bool b_2, .roi .u64 b_3]⟩]) (c_ (.agg [.ptr 0 0, .int .i64 x]) [⟨164, 1, .cells [.bool b, .roi .u64 b_1]⟩, ⟨164, 1, .cells [.bool b_2, .roi .u64 b_3]⟩]) (fun r0 r5 r6 => c_ (.agg [.ptr 2 0, .int .i64 r0]) [⟨164, 1, .cells [.bool b, .roi .u64 b_1]⟩, ⟨164, 1, .cells [.bool b_2, .roi .u64 b_3]⟩, ⟨164, 1, .cells [.bool r5, .roi .u64 r6]⟩])
  | _ => false
abbrev F_q3 (S_q3 : TS_q3) : Fs := mkFs shF_q3 (sp_q3 S_q3)

def shF_q39 : FnSh := ⟨[.ptr 0 0, .ptr 1 0], [some (164, 1, .cells [.bool, .nil]), some (164, 1, .cells [.bool, .roi .u64])]⟩
def sp_q39 (S_q39 : TS_q39) : List Atom -> (V -> List Blk -> Bool) -> Bool := fun a_ c_ => match a_ with
  | [.bool b, .bool b_1, .ints b_2] => S_q39 b b_1 b_2 (fun r0 r1 => c_ (.ptr 0 0) [⟨164, 1, .cells [.bool r0, .roi .u64 r1]⟩, ⟨164, 1, .cells [.bool b_1, .roi .u64 b_2]⟩])
  | _ => false
abbrev F_q39 (S_q39 : TS_q39) : Fs := mkFs shF_q39 (sp_q39 S_q39)

def shF_q58 : FnSh := ⟨[.ptr 0 0, .int .i64], [some (164, 1, .cells [.bool, .roi .u64])]⟩
def sp_q58 (S_q58 : TS_q58) : List Atom -> (V -> List Blk -> Bool) -> Bool := fun a_ c_ => match a_ with
  | [.int i, .bool b, .ints b_1] => S_q58 i b b_1 (fun r0 => c_ (.int .u64 r0) [⟨164, 1, .cells [.bool b, .roi .u64 b_1]⟩])
  | _ => false
abbrev F_q58 (S_q58 : TS_q58) : Fs := mkFs shF_q58 (sp_q58 S_q58)

def shF_q11 : FnSh := ⟨[.ptr 0 0], [some (164, 1, .cells [.bool, .roi .u64])]⟩
def sp_q11 (S_q11 : TS_q11) : List Atom -> (V -> List Blk -> Bool) -> Bool := fun a_ c_ => match a_ with
  | [.bool b, .ints b_1] => S_q11 b b_1 (fun r0 => c_ (.int .u64 r0) [⟨164, 1, .cells [.bool b, .roi .u64 b_1]⟩])
  | _ => false
abbrev F_q11 (S_q11 : TS_q11) : Fs := mkFs shF_q11 (sp_q11 S_q11)

def shF_q154 : FnSh := ⟨[.roi .u64, .int .u64], []⟩
def sp_q154 (S_q154 : TS_q154) : List Atom -> (V -> List Blk -> Bool) -> Bool := fun a_ c_ => match a_ with
  | [.ints x, .int n] => S_q154 x n (fun r0 r1 => c_ (.tup [.roi .u64 r0, .bool r1]) [])
  | _ => false
abbrev F_q154 (S_q154 : TS_q154) : Fs := mkFs shF_q154 (sp_q154 S_q154)

def shF_q17 : FnSh := ⟨[.ptr 0 0, .ptr 0 0, .int .u64], [some (164, 1, .cells [.bool, .roi .u64])]⟩
def sp_q17 (S_q17 : TS_q17) : List Atom -> (V -> List Blk -> Bool) -> Bool := fun a_ c_ => match a_ with
  | [.int n, .bool b, .ints b_1] => S_q17 n b b_1 (fun r0 r1 => c_ (.ptr 0 0) [⟨164, 1, .cells [.bool r0, .roi .u64 r1]⟩])
  | _ => false
abbrev F_q17 (S_q17 : TS_q17) : Fs := mkFs shF_q17 (sp_q17 S_q17)

def shF_q24 : FnSh := ⟨[.agg [.ptr 0 0, .int .i64]], [some (164, 1, .cells [.bool, .roi .u64])]⟩
def sp_q24 (S_q24 : TS_q24) : List Atom -> (V -> List Blk -> Bool) -> Bool := fun a_ c_ => match a_ with
  | [.int x, .bool b, .ints b_1] => S_q24 x b b_1 (fun r0 r3 r4 => c_ (.agg [.ptr 1 0, .int .i64 r0]) [⟨164, 1, .cells [.bool b, .roi .u64 b_1]⟩, ⟨164, 1, .cells [.bool r3, .roi .u64 r4]⟩])
  | _ => false
abbrev F_q24 (S_q24 : TS_q24) : Fs := mkFs shF_q24 (sp_q24 S_q24)

def shF_q117 : FnSh := ⟨[.int .u64], []⟩
def sp_q117 (S_q117 : TS_q117) : List Atom -> (V -> List Blk -> Bool) -> Bool := fun a_ c_ => match a_ with
  | [.int x] => S_q117 x (fun r0 => c_ (.int .i64 r0) [])
  | _ => false
abbrev F_q117 (S_q117 : TS_q117) : Fs := mkFs shF_q117 (sp_q117 S_q117)

def shF_q151 : FnSh := ⟨[.roi .u64], []⟩
def sp_q151 (S_q151 : TS_q151) : List Atom -> (V -> List Blk -> Bool) -> Bool := fun a_ c_ => match a_ with
  | [.ints x] => S_q151 x (fun r0 => c_ (.int .i64 r0) [])
  | _ => false
abbrev F_q151 (S_q151 : TS_q151) : Fs := mkFs shF_q151 (sp_q151 S_q151)

def shF_q38 : FnSh := ⟨[.ptr 0 0], [some (164, 1, .cells [.bool, .roi .u64])]⟩
def sp_q38 (S_q38 : TS_q38) : List Atom -> (V -> List Blk -> Bool) -> Bool := fun a_ c_ => match a_ with
  | [.bool b, .ints b_1] => S_q38 b b_1 (fun r0 => c_ (.int .i64 r0) [⟨164, 1, .cells [.bool b, .roi .u64 b_1]⟩])
  | _ => false
abbrev F_q38 (S_q38 : TS_q38) : Fs := mkFs shF_q38 (sp_q38 S_q38)

def shF_q61 : FnSh := ⟨[.ptr 0 0, .int .i64], [some (164, 1, .cells [.bool, .nil])]⟩
def sp_q61 (S_q61 : TS_q61) : List Atom -> (V -> List Blk -> Bool) -> Bool := fun a_ c_ => match a_ with
  | [.int n, .bool b] => S_q61 n b (fun r0 r1 => c_ (.ptr 0 0) [⟨164, 1, .cells [.bool r0, .roi .u64 r1]⟩])
  | _ => false
abbrev F_q61 (S_q61 : TS_q61) : Fs := mkFs shF_q61 (sp_q61 S_q61)

def shF_q65 : FnSh := ⟨[.int .i64], []⟩
def sp_q65 (S_q65 : TS_q65) : List Atom -> (V -> List Blk -> Bool) -> Bool := fun a_ c_ => match a_ with
  | [.int n] => S_q65 n (fun r0 r1 => c_ (.ptr 0 0) [⟨164, 1, .cells [.bool r0, .roi .u64 r1]⟩])
  | _ => false
abbrev F_q65 (S_q65 : TS_q65) : Fs := mkFs shF_q65 (sp_q65 S_q65)

def shF_q37 : FnSh := ⟨[.ptr 0 0, .ptr 1 0], [some (164, 1, .cells [.bool, .nil]), some (164, 1, .cells [.bool, .roi .u64])]⟩
def sp_q37 (S_q37 : TS_q37) : List Atom -> (V -> List Blk -> Bool) -> Bool := fun a_ c_ => match a_ with
  | [.bool b, .bool b_1, .ints b_2] => S_q37 b b_1 b_2 (fun r0 r1 => c_ (.ptr 0 0) [⟨164, 1, .cells [.bool r0, .roi .u64 r1]⟩, ⟨164, 1, .cells [.bool b_1, .roi .u64 b_2]⟩])
  | _ => false
abbrev F_q37 (S_q37 : TS_q37) : Fs := mkFs shF_q37 (sp_q37 S_q37)

def shF_q41 : FnSh := ⟨[.ptr 0 0, .bool, .sl 1], [some (164, 1, .cells [.bool, .nil]), some (41, 1, .ints .u64)]⟩
def sp_q41 (S_q41 : TS_q41) : List Atom -> (V -> List Blk -> Bool) -> Bool := fun a_ c_ => match a_ with
  | [.bool neg, .nat abs_0, .nat abs_1, .bool b, .ints b_1] => S_q41 neg abs_0 abs_1 b b_1 (fun r0 => c_ (.ptr 0 0) [⟨164, 1, .cells [.bool r0, .sl 1 abs_0 abs_1]⟩, ⟨41, 1, .ints .u64 b_1⟩])
  | _ => false
abbrev F_q41 (S_q41 : TS_q41) : Fs := mkFs shF_q41 (sp_q41 S_q41)

def shF_q25 : FnSh := ⟨[.ptr 0 0, .ptr 1 0, .ptr 2 0], [some (164, 1, .cells [.bool, .nil]), some (164, 1, .cells [.bool, .roi .u64]), some (164, 1, .cells [.bool, .roi .u64])]⟩
def sp_q25 (S_q25 : TS_q25) : List Atom -> (V -> List Blk -> Bool) -> Bool := fun a_ c_ => match a_ with
  | [.bool b, .bool b_1, .ints b_2, .bool b_3, .ints b_4] => S_q25 b b_1 b_2 b_3 b_4 (fun r0 r1 => c_ (.ptr 0 0) [⟨164, 1, .cells [.bool r0, .roi .u64 r1]⟩, ⟨164, 1, .cells [.bool b_1, .roi .u64 b_2]⟩, ⟨164, 1, .cells [.bool b_3, .roi .u64 b_4]⟩])
  | _ => false
abbrev F_q25 (S_q25 : TS_q25) : Fs := mkFs shF_q25 (sp_q25 S_q25)

def shF_q187 : FnSh := ⟨[.roi .u64], []⟩
def sp_q187 (S_q187 : TS_q187) : List Atom -> (V -> List Blk -> Bool) -> Bool := fun a_ c_ => match a_ with
  | [.ints x] => S_q187 x (fun r0 => c_ (.int .u64 r0) [])
  | _ => false
abbrev F_q187 (S_q187 : TS_q187) : Fs := mkFs shF_q187 (sp_q187 S_q187)

def shF_q40 : FnSh := ⟨[.ptr 0 0], [some (164, 1, .cells [.bool, .roi .u64])]⟩
def sp_q40 (S_q40 : TS_q40) : List Atom -> (V -> List Blk -> Bool) -> Bool := fun a_ c_ => match a_ with
  | [.bool b, .ints b_1] => S_q40 b b_1 (fun r0 => c_ (.int .u64 r0) [⟨164, 1, .cells [.bool b, .roi .u64 b_1]⟩])
  | _ => false
abbrev F_q40 (S_q40 : TS_q40) : Fs := mkFs shF_q40 (sp_q40 S_q40)

def shF_q16 : FnSh := ⟨[.agg [.ptr 0 0, .int .i64]], [some (164, 1, .cells [.bool, .roi .u64])]⟩
def sp_q16 (S_q16 : TS_q16) : List Atom -> (V -> List Blk -> Bool) -> Bool := fun a_ c_ => match a_ with
  | [.int x, .bool b, .ints b_1] => S_q16 x b b_1 (fun r0 r1 r2 => c_ (.tup [.agg [.bool r0, .nil, .int .i64 r1], .int .i64 r2]) [⟨164, 1, .cells [.bool b, .roi .u64 b_1]⟩]) (fun r0 r1 r2 r5 => c_ (.tup [.agg [.bool r0, .slw 1, .int .i64 r1], .int .i64 r2]) [⟨164, 1, .cells [.bool b, .roi .u64 b_1]⟩, ⟨127, 1, .ints .u32 r5⟩])
  | _ => false
abbrev F_q16 (S_q16 : TS_q16) : Fs := mkFs shF_q16 (sp_q16 S_q16)

def shF_q94 : FnSh := ⟨[.rof, .rof], []⟩
def sp_q94 (S_q94 : TS_q94) : List Atom -> (V -> List Blk -> Bool) -> Bool := fun a_ c_ => match a_ with
  | [.fls a, .fls b] => S_q94 a b (fun r0 r1 r2 => c_ (.tup [.agg [.bool r0, .nil, .int .i64 r1], .int .i64 r2]) []) (fun r0 r1 r2 r3 => c_ (.tup [.agg [.bool r0, .slw 0, .int .i64 r1], .int .i64 r2]) [⟨127, 1, .ints .u32 r3⟩])
  | _ => false
abbrev F_q94 (S_q94 : TS_q94) : Fs := mkFs shF_q94 (sp_q94 S_q94)

def shF_q149 : FnSh := ⟨[.agg [.bool, .roi .u32, .int .i64]], []⟩
def sp_q149 (S_q149 : TS_q149) : List Atom -> (V -> List Blk -> Bool) -> Bool := fun a_ c_ => match a_ with
  | [.bool d_0, .ints d_1, .int d_2] => S_q149 d_0 d_1 d_2 (fun r0 => c_ (.bool r0) [])
  | _ => false
abbrev F_q149 (S_q149 : TS_q149) : Fs := mkFs shF_q149 (sp_q149 S_q149)

def shF_q44 : FnSh := ⟨[.ptr 0 0, .ptr 0 0, .int .u64], [some (164, 1, .cells [.bool, .nil])]⟩
def sp_q44 (S_q44 : TS_q44) : List Atom -> (V -> List Blk -> Bool) -> Bool := fun a_ c_ => match a_ with
  | [.int n, .bool b] => S_q44 n b (fun r0 r1 => c_ (.ptr 0 0) [⟨164, 1, .cells [.bool r0, .roi .u64 r1]⟩])
  | _ => false
abbrev F_q44 (S_q44 : TS_q44) : Fs := mkFs shF_q44 (sp_q44 S_q44)

def shF_q42 : FnSh := ⟨[.ptr 0 0, .bool, .sl 1], [some (164, 1, .cells [.bool, .roi .u64]), some (41, 1, .ints .u64)]⟩
def sp_q42 (S_q42 : TS_q42) : List Atom -> (V -> List Blk -> Bool) -> Bool := fun a_ c_ => match a_ with
  | [.bool neg, .nat abs_0, .nat abs_1, .bool b, .ints b_1, .ints b_2] => S_q42 neg abs_0 abs_1 b b_1 b_2 (fun r0 => c_ (.ptr 0 0) [⟨164, 1, .cells [.bool r0, .sl 1 abs_0 abs_1]⟩, ⟨41, 1, .ints .u64 b_2⟩])
  | _ => false
abbrev F_q42 (S_q42 : TS_q42) : Fs := mkFs shF_q42 (sp_q42 S_q42)

def shF_q31 : FnSh := ⟨[.ptr 0 0, .ptr 0 0, .ptr 1 0], [some (164, 1, .cells [.bool, .roi .u64]), some (164, 1, .cells [.bool, .roi .u64])]⟩
def sp_q31 (S_q31 : TS_q31) : List Atom -> (V -> List Blk -> Bool) -> Bool := fun a_ c_ => match a_ with
  | [.bool b, .ints b_1, .bool b_2, .ints b_3] => S_q31 b b_1 b_2 b_3 (fun r0 r1 => c_ (.ptr 0 0) [⟨164, 1, .cells [.bool r0, .roi .u64 r1]⟩, ⟨164, 1, .cells [.bool b_2, .roi .u64 b_3]⟩])
  | _ => false
abbrev F_q31 (S_q31 : TS_q31) : Fs := mkFs shF_q31 (sp_q31 S_q31)

def shF_q48 : FnSh := ⟨[.ptr 0 0, .ptr 0 0, .int .u64], [some (164, 1, .cells [.bool, .roi .u64])]⟩
def sp_q48 (S_q48 : TS_q48) : List Atom -> (V -> List Blk -> Bool) -> Bool := fun a_ c_ => match a_ with
  | [.int n, .bool b, .ints b_1] => S_q48 n b b_1 (fun r0 r1 => c_ (.ptr 0 0) [⟨164, 1, .cells [.bool r0, .roi .u64 r1]⟩])
  | _ => false
abbrev F_q48 (S_q48 : TS_q48) : Fs := mkFs shF_q48 (sp_q48 S_q48)

def shF_q130 : FnSh := ⟨[.agg [.bool, .roi .u32, .int .i64]], []⟩
def sp_q130 (S_q130 : TS_q130) : List Atom -> (V -> List Blk -> Bool) -> Bool := fun a_ c_ => match a_ with
  | [.bool d_0, .ints d_1, .int d_2] => S_q130 d_0 d_1 d_2 (fun r1 r2 => c_ (.agg [.ptr 0 0, .int .i64 d_2]) [⟨164, 1, .cells [.bool r1, .roi .u64 r2]⟩])
  | _ => false
abbrev F_q130 (S_q130 : TS_q130) : Fs := mkFs shF_q130 (sp_q130 S_q130)

def shF_q45 : FnSh := ⟨[.ptr 0 0, .ptr 1 0], [some (164, 1, .cells [.bool, .nil]), some (164, 1, .cells [.bool, .roi .u64])]⟩
def sp_q45 (S_q45 : TS_q45) : List Atom -> (V -> List Blk -> Bool) -> Bool := fun a_ c_ => match a_ with
  | [.bool b, .bool b_1, .ints b_2] => S_q45 b b_1 b_2 (fun r0 r1 => c_ (.ptr 0 0) [⟨164, 1, .cells [.bool r0, .roi .u64 r1]⟩, ⟨164, 1, .cells [.bool b_1, .roi .u64 b_2]⟩])
  | _ => false
abbrev F_q45 (S_q45 : TS_q45) : Fs := mkFs shF_q45 (sp_q45 S_q45)

def shF_q78 : FnSh := ⟨[.agg [.ptr 0 0, .int .i64], .agg [.ptr 1 0, .int .i64]], [some (164, 1, .cells [.bool, .roi .u64]), some (164, 1, .cells [.bool, .roi .u64])]⟩
def sp_q78 (S_q78 : TS_q78) : List Atom -> (V -> List Blk -> Bool) -> Bool := fun a_ c_ => match a_ with
  | [.int x, .int y, .bool b, .ints b_1, .bool b_2, .ints b_3] => S_q78 x y b b_1 b_2 b_3 (fun r0 r5 r6 => c_ (.agg [.ptr 2 0, .int .i64 r0]) [⟨164, 1, .cells [.bool b, .roi .u64 b_1]⟩, ⟨164, 1, .cells [.bool b_2, .roi .u64 b_3]⟩, ⟨164, 1, .cells [.bool r5, .roi .u64 r6]⟩]) (c_ (.agg [.ptr 0 0, .int .i64 x]) [⟨164, 1, .cells [.bool b, .roi .u64 b_1]⟩, ⟨164, 1, .cells [.bool b_2, .roi .u64 b_3]⟩])
  | _ => false
abbrev F_q78 (S_q78 : TS_q78) : Fs := mkFs shF_q78 (sp_q78 S_q78)

def shF_q137 : FnSh := ⟨[.agg [.bool, .roi .u32, .int .i64], .agg [.bool, .roi .u32, .int .i64], .fn 130 []], []⟩
def sp_q137 (S_q137 : TS_q137) : List Atom -> (V -> List Blk -> Bool) -> Bool := fun a_ c_ => match a_ with
  | [.bool a_0, .ints a_1, .int a_2, .bool b_0, .ints b_1, .int b_2] => S_q137 a_0 a_1 a_2 b_0 b_1 b_2 (fun r0 r1 r2 => c_ (.tup [.agg [.bool r0, .nil, .int .i64 r1], .int .i64 r2]) []) (fun r0 r1 r2 r3 => c_ (.tup [.agg [.bool r0, .slw 0, .int .i64 r1], .int .i64 r2]) [⟨127, 1, .ints .u32 r3⟩])
  | _ => false
abbrev F_q137 (S_q137 : TS_q137) : Fs := mkFs shF_q137 (sp_q137 S_q137)

def shF_q96 : FnSh := ⟨[.agg [.bool, .roi .u32, .int .i64], .agg [.bool, .roi .u32, .int .i64]], []⟩
def sp_q96 (S_q96 : TS_q96) : List Atom -> (V -> List Blk -> Bool) -> Bool := fun a_ c_ => match a_ with
  | [.bool a_0, .ints a_1, .int a_2, .bool b_0, .ints b_1, .int b_2] => S_q96 a_0 a_1 a_2 b_0 b_1 b_2 (fun r0 r1 r2 => c_ (.tup [.agg [.bool r0, .nil, .int .i64 r1], .int .i64 r2]) []) (fun r0 r1 r2 r3 => c_ (.tup [.agg [.bool r0, .slw 0, .int .i64 r1], .int .i64 r2]) [⟨127, 1, .ints .u32 r3⟩])
  | _ => false
abbrev F_q96 (S_q96 : TS_q96) : Fs := mkFs shF_q96 (sp_q96 S_q96)

def shF_q43 : FnSh := ⟨[.agg [.bool, .roi .u32, .int .i64], .agg [.bool, .roi .u32, .int .i64]], []⟩
def sp_q43 (S_q43 : TS_q43) : List Atom -> (V -> List Blk -> Bool) -> Bool := fun a_ c_ => match a_ with
  | [.bool a_0, .ints a_1, .int a_2, .bool b_0, .ints b_1, .int b_2] => S_q43 a_0 a_1 a_2 b_0 b_1 b_2 (fun r0 r1 => c_ (.tup [.int .i64 r0, .int .i64 r1]) [])
  | _ => false
abbrev F_q43 (S_q43 : TS_q43) : Fs := mkFs shF_q43 (sp_q43 S_q43)

def shF_q144 : FnSh := ⟨[.agg [.flt, .flt, .flt, .flt]], []⟩
def sp_q144 (S_q144 : TS_q144) : List Atom -> (V -> List Blk -> Bool) -> Bool := fun a_ c_ => match a_ with
  | [.fl q_0, .fl q_1, .fl q_2, .fl q_3] => S_q144 q_0 q_1 q_2 q_3 (fun r0 => c_ (.bool r0) [])
  | _ => false
abbrev F_q144 (S_q144 : TS_q144) : Fs := mkFs shF_q144 (sp_q144 S_q144)

def shF_q88 : FnSh := ⟨[], []⟩
def sp_q88 (S_q88 : TS_q88) : List Atom -> (V -> List Blk -> Bool) -> Bool := fun a_ c_ => match a_ with
  | [] => S_q88 (fun r0 r1 r2 r3 => c_ (.agg [.flt r0, .flt r1, .flt r2, .flt r3]) [])
  | _ => false
abbrev F_q88 (S_q88 : TS_q88) : Fs := mkFs shF_q88 (sp_q88 S_q88)

def shF_q51 : FnSh := ⟨[], []⟩
def sp_q51 (S_q51 : TS_q51) : List Atom -> (V -> List Blk -> Bool) -> Bool := fun a_ c_ => match a_ with
  | [] => S_q51 (fun r0 => c_ (.bool r0) [])
  | _ => false
abbrev F_q51 (S_q51 : TS_q51) : Fs := mkFs shF_q51 (sp_q51 S_q51)

def shF_q132 : FnSh := ⟨[.agg [.flt, .flt, .flt], .agg [.flt, .flt, .flt]], []⟩
def sp_q132 (S_q132 : TS_q132) : List Atom -> (V -> List Blk -> Bool) -> Bool := fun a_ c_ => match a_ with
  | [.fl a_0, .fl a_1, .fl a_2, .fl b_0, .fl b_1, .fl b_2] => S_q132 a_0 a_1 a_2 b_0 b_1 b_2 (fun r0 r1 r2 r3 => c_ (.tup [.agg [.flt r0, .flt r1, .flt r2], .int .i64 r3]) [])
  | _ => false
abbrev F_q132 (S_q132 : TS_q132) : Fs := mkFs shF_q132 (sp_q132 S_q132)

def shF_q141 : FnSh := ⟨[.agg [.flt, .flt, .flt], .agg [.flt, .flt, .flt]], []⟩
def sp_q141 (S_q141 : TS_q141) : List Atom -> (V -> List Blk -> Bool) -> Bool := fun a_ c_ => match a_ with
  | [.fl a_0, .fl a_1, .fl a_2, .fl b_0, .fl b_1, .fl b_2] => S_q141 a_0 a_1 a_2 b_0 b_1 b_2 (fun r0 r1 r2 r3 => c_ (.tup [.agg [.flt r0, .flt r1, .flt r2], .int .i64 r3]) [])
  | _ => false
abbrev F_q141 (S_q141 : TS_q141) : Fs := mkFs shF_q141 (sp_q141 S_q141)

def shF_q133 : FnSh := ⟨[.agg [.flt, .flt, .flt, .flt]], []⟩
def sp_q133 (S_q133 : TS_q133) : List Atom -> (V -> List Blk -> Bool) -> Bool := fun a_ c_ => match a_ with
  | [.fl q_0, .fl q_1, .fl q_2, .fl q_3] => S_q133 q_0 q_1 q_2 q_3 (fun r0 r1 r2 r3 => c_ (.tup [.agg [.flt r0, .flt r1, .flt r2], .int .i64 r3]) [])
  | _ => false
abbrev F_q133 (S_q133 : TS_q133) : Fs := mkFs shF_q133 (sp_q133 S_q133)

def shF_q36 : FnSh := ⟨[.ro 1 [.bool]], []⟩
def sp_q36 (S_q36 : TS_q36) : List Atom -> (V -> List Blk -> Bool) -> Bool := fun a_ c_ => match a_ with
  | [.bool ok] => S_q36 ok (fun r0 => c_ (.int .i64 r0) [])
  | _ => false
abbrev F_q36 (S_q36 : TS_q36) : Fs := mkFs shF_q36 (sp_q36 S_q36)

def shF_q142 : FnSh := ⟨[.agg [.flt, .flt, .flt, .flt]], []⟩
def sp_q142 (S_q142 : TS_q142) : List Atom -> (V -> List Blk -> Bool) -> Bool := fun a_ c_ => match a_ with
  | [.fl q_0, .fl q_1, .fl q_2, .fl q_3] => S_q142 q_0 q_1 q_2 q_3 (fun r0 r1 r2 r3 => c_ (.tup [.agg [.flt r0, .flt r1, .flt r2], .int .i64 r3]) [])
  | _ => false
abbrev F_q142 (S_q142 : TS_q142) : Fs := mkFs shF_q142 (sp_q142 S_q142)

def shF_q114 : FnSh := ⟨[.agg [.flt, .flt, .flt]], []⟩
def sp_q114 (S_q114 : TS_q114) : List Atom -> (V -> List Blk -> Bool) -> Bool := fun a_ c_ => match a_ with
  | [.fl v_0, .fl v_1, .fl v_2] => S_q114 v_0 v_1 v_2 (fun r0 r1 r2 r3 r4 => c_ (.tup [.agg [.flt r0, .flt r1, .flt r2, .flt r3], .int .i64 r4]) [])
  | _ => false
abbrev F_q114 (S_q114 : TS_q114) : Fs := mkFs shF_q114 (sp_q114 S_q114)

def shF_q122 : FnSh := ⟨[.rof], []⟩
def sp_q122 (S_q122 : TS_q122) : List Atom -> (V -> List Blk -> Bool) -> Bool := fun a_ c_ => match a_ with
  | [.fls x] => S_q122 x (fun r0 r1 => c_ (.tup [.int .i64 r0, .bool r1]) [])
  | _ => false
abbrev F_q122 (S_q122 : TS_q122) : Fs := mkFs shF_q122 (sp_q122 S_q122)

def shF_q119 : FnSh := ⟨[.litI .i64 0], []⟩
def sp_q119 (S_q119 : TS_q119) : List Atom -> (V -> List Blk -> Bool) -> Bool := fun a_ c_ => match a_ with
  | [] => S_q119 (c_ (.bool true) [])
  | _ => false
abbrev F_q119 (S_q119 : TS_q119) : Fs := mkFs shF_q119 (sp_q119 S_q119)

def shF_q101 : FnSh := ⟨[], []⟩
def sp_q101 (S_q101 : TS_q101) : List Atom -> (V -> List Blk -> Bool) -> Bool := fun a_ c_ => match a_ with
  | [] => S_q101 (c_ (.agg [.int .i64 53, .int .i64 (-1022), .int .i64 1023, .int .i64 11]) [])
  | _ => false
abbrev F_q101 (S_q101 : TS_q101) : Fs := mkFs shF_q101 (sp_q101 S_q101)

def shF_q21 : FnSh := ⟨[.slw 0], [some (127, 1, .ints .u32)]⟩
def sp_q21 (S_q21 : TS_q21) : List Atom -> (V -> List Blk -> Bool) -> Bool := fun a_ c_ => match a_ with
  | [.ints b] => S_q21 b (fun r0 r1 => c_ (.sl 0 r0 r1) [⟨127, 1, .ints .u32 b⟩])
  | _ => false
abbrev F_q21 (S_q21 : TS_q21) : Fs := mkFs shF_q21 (sp_q21 S_q21)

def shF_q106 : FnSh := ⟨[.int .u64], []⟩
def sp_q106 (S_q106 : TS_q106) : List Atom -> (V -> List Blk -> Bool) -> Bool := fun a_ c_ => match a_ with
  | [.int n] => S_q106 n (fun r0 => c_ (.roi .u32 r0) [])
  | _ => false
abbrev F_q106 (S_q106 : TS_q106) : Fs := mkFs shF_q106 (sp_q106 S_q106)

def shF_q168 : FnSh := ⟨[.roi .u32], []⟩
def sp_q168 (S_q168 : TS_q168) : List Atom -> (V -> List Blk -> Bool) -> Bool := fun a_ c_ => match a_ with
  | [.ints m] => S_q168 m (fun r0 => c_ (.roi .u32 r0) [])
  | _ => false
abbrev F_q168 (S_q168 : TS_q168) : Fs := mkFs shF_q168 (sp_q168 S_q168)

def shF_q53 : FnSh := ⟨[.ptr 0 0, .bool, .roi .u32], [some (105, 1, .cells [.bool, .nil])]⟩
def sp_q53 (S_q53 : TS_q53) : List Atom -> (V -> List Blk -> Bool) -> Bool := fun a_ c_ => match a_ with
  | [.bool neg, .ints m, .bool b] => S_q53 neg m b (fun r0 r1 => c_ (.ptr 0 0) [⟨105, 1, .cells [.bool r0, .roi .u32 r1]⟩])
  | _ => false
abbrev F_q53 (S_q53 : TS_q53) : Fs := mkFs shF_q53 (sp_q53 S_q53)

def shF_q76 : FnSh := ⟨[.ptr 0 0, .int .u64], [some (105, 1, .cells [.bool, .nil])]⟩
def sp_q76 (S_q76 : TS_q76) : List Atom -> (V -> List Blk -> Bool) -> Bool := fun a_ c_ => match a_ with
  | [.int n, .bool b] => S_q76 n b (fun r0 r1 => c_ (.ptr 0 0) [⟨105, 1, .cells [.bool r0, .roi .u32 r1]⟩])
  | _ => false
abbrev F_q76 (S_q76 : TS_q76) : Fs := mkFs shF_q76 (sp_q76 S_q76)

def shF_q64 : FnSh := ⟨[.ptr 0 0, .bool, .roi .u32], [some (105, 1, .cells [.bool, .roi .u32])]⟩
def sp_q64 (S_q64 : TS_q64) : List Atom -> (V -> List Blk -> Bool) -> Bool := fun a_ c_ => match a_ with
  | [.bool neg, .ints m, .bool b, .ints b_1] => S_q64 neg m b b_1 (fun r0 r1 => c_ (.ptr 0 0) [⟨105, 1, .cells [.bool r0, .roi .u32 r1]⟩])
  | _ => false
abbrev F_q64 (S_q64 : TS_q64) : Fs := mkFs shF_q64 (sp_q64 S_q64)

def shF_q80 : FnSh := ⟨[.ptr 0 0, .int .u64], [some (105, 1, .cells [.bool, .roi .u32])]⟩
def sp_q80 (S_q80 : TS_q80) : List Atom -> (V -> List Blk -> Bool) -> Bool := fun a_ c_ => match a_ with
  | [.int n, .bool b, .ints b_1] => S_q80 n b b_1 (fun r0 r1 => c_ (.ptr 0 0) [⟨105, 1, .cells [.bool r0, .roi .u32 r1]⟩])
  | _ => false
abbrev F_q80 (S_q80 : TS_q80) : Fs := mkFs shF_q80 (sp_q80 S_q80)

def shF_q156 : FnSh := ⟨[.agg [.litI .i64 53, .litI .i64 (-1022), .litI .i64 1023, .litI .i64 11], .int .u64], []⟩
def sp_q156 (S_q156 : TS_q156) : List Atom -> (V -> List Blk -> Bool) -> Bool := fun a_ c_ => match a_ with
  | [.int bits] => S_q156 bits (fun r0 => c_ (.agg [.int .i64 2, .bool false, .ptr 0 0, .int .i64 0]) [⟨105, 1, .cells [.bool r0, .nil]⟩]) (fun r0 r1 r2 => c_ (.agg [.int .i64 1, .bool r0, .ptr 0 0, .int .i64 (-1074)]) [⟨105, 1, .cells [.bool r1, .roi .u32 r2]⟩]) (fun r0 r1 r2 r3 => c_ (.agg [.int .i64 0, .bool r0, .ptr 0 0, .int .i64 r1]) [⟨105, 1, .cells [.bool r2, .roi .u32 r3]⟩]) (fun r0 r1 r2 => c_ (.agg [.int .i64 0, .bool r0, .ptr 0 0, .int .i64 (-1074)]) [⟨105, 1, .cells [.bool r1, .roi .u32 r2]⟩])
  | _ => false
abbrev F_q156 (S_q156 : TS_q156) : Fs := mkFs shF_q156 (sp_q156 S_q156)

def shF_q175 : FnSh := ⟨[.agg [.litI .i64 53, .litI .i64 (-1022), .litI .i64 1023, .litI .i64 11]], []⟩
def sp_q175 (S_q175 : TS_q175) : List Atom -> (V -> List Blk -> Bool) -> Bool := fun a_ c_ => match a_ with
  | [] => S_q175 (fun r0 => c_ (.int .u64 r0) [])
  | _ => false
abbrev F_q175 (S_q175 : TS_q175) : Fs := mkFs shF_q175 (sp_q175 S_q175)

def shF_q164 : FnSh := ⟨[.agg [.litI .i64 53, .litI .i64 (-1022), .litI .i64 1023, .litI .i64 11], .agg [.litI .i64 2, .litB false, .ptr 0 0, .litI .i64 0], .litI .i64 0], [some (105, 1, .cells [.bool, .nil])]⟩
def sp_q164 (S_q164 : TS_q164) : List Atom -> (V -> List Blk -> Bool) -> Bool := fun a_ c_ => match a_ with
  | [.bool b] => S_q164 b (fun r0 r1 => c_ (.tup [.int .u64 r0, .int .i64 r1]) [⟨105, 1, .cells [.bool b, .nil]⟩])
  | _ => false
abbrev F_q164 (S_q164 : TS_q164) : Fs := mkFs shF_q164 (sp_q164 S_q164)

def shF_q68 : FnSh := ⟨[.agg [.litI .i64 53, .litI .i64 (-1022), .litI .i64 1023, .litI .i64 11], .bool, .int .i64, .int .u64], []⟩
def sp_q68 (S_q68 : TS_q68) : List Atom -> (V -> List Blk -> Bool) -> Bool := fun a_ c_ => match a_ with
  | [.bool neg, .int field, .int frac] => S_q68 neg field frac (fun r0 => c_ (.int .u64 r0) [])
  | _ => false
abbrev F_q68 (S_q68 : TS_q68) : Fs := mkFs shF_q68 (sp_q68 S_q68)

def shF_q104 : FnSh := ⟨[.agg [.litI .i64 53, .litI .i64 (-1022), .litI .i64 1023, .litI .i64 11], .bool], []⟩
def sp_q104 (S_q104 : TS_q104) : List Atom -> (V -> List Blk -> Bool) -> Bool := fun a_ c_ => match a_ with
  | [.bool neg] => S_q104 neg (fun r0 => c_ (.int .u64 r0) [])
  | _ => false
abbrev F_q104 (S_q104 : TS_q104) : Fs := mkFs shF_q104 (sp_q104 S_q104)

def shF_q99 : FnSh := ⟨[.ptr 0 0], [some (105, 1, .cells [.bool, .roi .u32])]⟩
def sp_q99 (S_q99 : TS_q99) : List Atom -> (V -> List Blk -> Bool) -> Bool := fun a_ c_ => match a_ with
  | [.bool b, .ints b_1] => S_q99 b b_1 (fun r0 => c_ (.int .i64 r0) [⟨105, 1, .cells [.bool b, .roi .u32 b_1]⟩])
  | _ => false
abbrev F_q99 (S_q99 : TS_q99) : Fs := mkFs shF_q99 (sp_q99 S_q99)

def shF_q167 : FnSh := ⟨[.agg [.int .i64, .bool, .ptr 0 0, .int .i64]], [some (105, 1, .cells [.bool, .roi .u32])]⟩
def sp_q167 (S_q167 : TS_q167) : List Atom -> (V -> List Blk -> Bool) -> Bool := fun a_ c_ => match a_ with
  | [.int n_0, .bool n_1, .int n_2, .bool b, .ints b_1] => S_q167 n_0 n_1 n_2 b b_1 (fun r0 => c_ (.bool r0) [⟨105, 1, .cells [.bool b, .roi .u32 b_1]⟩])
  | _ => false
abbrev F_q167 (S_q167 : TS_q167) : Fs := mkFs shF_q167 (sp_q167 S_q167)

def shF_q169 : FnSh := ⟨[.agg [.litI .i64 53, .litI .i64 (-1022), .litI .i64 1023, .litI .i64 11], .bool], []⟩
def sp_q169 (S_q169 : TS_q169) : List Atom -> (V -> List Blk -> Bool) -> Bool := fun a_ c_ => match a_ with
  | [.bool neg] => S_q169 neg (fun r0 => c_ (.int .u64 r0) [])
  | _ => false
abbrev F_q169 (S_q169 : TS_q169) : Fs := mkFs shF_q169 (sp_q169 S_q169)

def shF_q125 : FnSh := ⟨[.int .u32], []⟩
def sp_q125 (S_q125 : TS_q125) : List Atom -> (V -> List Blk -> Bool) -> Bool := fun a_ c_ => match a_ with
  | [.int x] => S_q125 x (fun r0 => c_ (.int .i64 r0) [])
  | _ => false
abbrev F_q125 (S_q125 : TS_q125) : Fs := mkFs shF_q125 (sp_q125 S_q125)

def shF_q5 : FnSh := ⟨[.ptr 0 0], [some (105, 1, .cells [.bool, .roi .u32])]⟩
def sp_q5 (S_q5 : TS_q5) : List Atom -> (V -> List Blk -> Bool) -> Bool := fun a_ c_ => match a_ with
  | [.bool b, .ints b_1] => S_q5 b b_1 (fun r0 => c_ (.int .i64 r0) [⟨105, 1, .cells [.bool b, .roi .u32 b_1]⟩])
  | _ => false
abbrev F_q5 (S_q5 : TS_q5) : Fs := mkFs shF_q5 (sp_q5 S_q5)

def shF_q128 : FnSh := ⟨[.ptr 0 0, .bool, .slw 1], [some (105, 1, .cells [.bool, .nil]), some (127, 1, .ints .u32)]⟩
def sp_q128 (S_q128 : TS_q128) : List Atom -> (V -> List Blk -> Bool) -> Bool := fun a_ c_ => match a_ with
  | [.bool neg, .bool b, .ints b_1] => S_q128 neg b b_1 (fun r0 r1 r2 => c_ (.ptr 0 0) [⟨105, 1, .cells [.bool r0, .sl 1 r1 r2]⟩, ⟨127, 1, .ints .u32 b_1⟩])
  | _ => false
abbrev F_q128 (S_q128 : TS_q128) : Fs := mkFs shF_q128 (sp_q128 S_q128)

def shF_q8 : FnSh := ⟨[.ptr 0 0, .ptr 1 0], [some (105, 1, .cells [.bool, .nil]), some (105, 1, .cells [.bool, .roi .u32])]⟩
def sp_q8 (S_q8 : TS_q8) : List Atom -> (V -> List Blk -> Bool) -> Bool := fun a_ c_ => match a_ with
  | [.bool b, .bool b_1, .ints b_2] => S_q8 b b_1 b_2 (fun r0 r1 => c_ (.ptr 0 0) [⟨105, 1, .cells [.bool r0, .roi .u32 r1]⟩, ⟨105, 1, .cells [.bool b_1, .roi .u32 b_2]⟩])
  | _ => false
abbrev F_q8 (S_q8 : TS_q8) : Fs := mkFs shF_q8 (sp_q8 S_q8)

def shF_q139 : FnSh := ⟨[.roi .u32, .int .u64], []⟩
def sp_q139 (S_q139 : TS_q139) : List Atom -> (V -> List Blk -> Bool) -> Bool := fun a_ c_ => match a_ with
  | [.ints m, .int n] => S_q139 m n (fun r0 => c_ (.roi .u32 r0) [])
  | _ => false
abbrev F_q139 (S_q139 : TS_q139) : Fs := mkFs shF_q139 (sp_q139 S_q139)

def shF_q10 : FnSh := ⟨[.ptr 0 0, .ptr 0 0, .int .u64], [some (105, 1, .cells [.bool, .roi .u32])]⟩
def sp_q10 (S_q10 : TS_q10) : List Atom -> (V -> List Blk -> Bool) -> Bool := fun a_ c_ => match a_ with
  | [.int n, .bool b, .ints b_1] => S_q10 n b b_1 (fun r0 r1 => c_ (.ptr 0 0) [⟨105, 1, .cells [.bool r0, .roi .u32 r1]⟩])
  | _ => false
abbrev F_q10 (S_q10 : TS_q10) : Fs := mkFs shF_q10 (sp_q10 S_q10)

def shF_q126 : FnSh := ⟨[.roi .u32, .int .u64], []⟩
def sp_q126 (S_q126 : TS_q126) : List Atom -> (V -> List Blk -> Bool) -> Bool := fun a_ c_ => match a_ with
  | [.ints m, .int n] => S_q126 m n (fun r0 => c_ (.roi .u32 r0) [])
  | _ => false
abbrev F_q126 (S_q126 : TS_q126) : Fs := mkFs shF_q126 (sp_q126 S_q126)

def shF_q33 : FnSh := ⟨[.roi .u32, .roi .u32], []⟩
def sp_q33 (S_q33 : TS_q33) : List Atom -> (V -> List Blk -> Bool) -> Bool := fun a_ c_ => match a_ with
  | [.ints a, .ints b] => S_q33 a b (fun r0 => c_ (.roi .u32 r0) [])
  | _ => false
abbrev F_q33 (S_q33 : TS_q33) : Fs := mkFs shF_q33 (sp_q33 S_q33)

def shF_q98 : FnSh := ⟨[.roi .u32, .roi .u32], []⟩
def sp_q98 (S_q98 : TS_q98) : List Atom -> (V -> List Blk -> Bool) -> Bool := fun a_ c_ => match a_ with
  | [.ints a, .ints b] => S_q98 a b (fun r0 => c_ (.roi .u32 r0) [])
  | _ => false
abbrev F_q98 (S_q98 : TS_q98) : Fs := mkFs shF_q98 (sp_q98 S_q98)

def shF_q113 : FnSh := ⟨[.ptr 0 0, .ptr 1 0, .int .u64], [some (105, 1, .cells [.bool, .nil]), some (105, 1, .cells [.bool, .roi .u32])]⟩
def sp_q113 (S_q113 : TS_q113) : List Atom -> (V -> List Blk -> Bool) -> Bool := fun a_ c_ => match a_ with
  | [.int n, .bool b, .bool b_1, .ints b_2] => S_q113 n b b_1 b_2 (fun r0 r1 => c_ (.ptr 0 0) [⟨105, 1, .cells [.bool r0, .roi .u32 r1]⟩, ⟨105, 1, .cells [.bool b_1, .roi .u32 b_2]⟩])
  | _ => false
abbrev F_q113 (S_q113 : TS_q113) : Fs := mkFs shF_q113 (sp_q113 S_q113)

def shF_q109 : FnSh := ⟨[.ptr 0 0, .ptr 1 0, .int .u64], [some (105, 1, .cells [.bool, .nil]), some (105, 1, .cells [.bool, .roi .u32])]⟩
def sp_q109 (S_q109 : TS_q109) : List Atom -> (V -> List Blk -> Bool) -> Bool := fun a_ c_ => match a_ with
  | [.int n, .bool b, .bool b_1, .ints b_2] => S_q109 n b b_1 b_2 (fun r0 r1 => c_ (.ptr 0 0) [⟨105, 1, .cells [.bool r0, .roi .u32 r1]⟩, ⟨105, 1, .cells [.bool b_1, .roi .u32 b_2]⟩])
  | _ => false
abbrev F_q109 (S_q109 : TS_q109) : Fs := mkFs shF_q109 (sp_q109 S_q109)

def shF_q69 : FnSh := ⟨[.roi .u32, .roi .u32], []⟩
def sp_q69 (S_q69 : TS_q69) : List Atom -> (V -> List Blk -> Bool) -> Bool := fun a_ c_ => match a_ with
  | [.ints a, .ints b] => S_q69 a b (fun r0 => c_ (.int .i64 r0) [])
  | _ => false
abbrev F_q69 (S_q69 : TS_q69) : Fs := mkFs shF_q69 (sp_q69 S_q69)

def shF_q82 : FnSh := ⟨[.ptr 0 0, .ptr 1 0, .ptr 2 0, .bool], [some (105, 1, .cells [.bool, .nil]), some (105, 1, .cells [.bool, .roi .u32]), some (105, 1, .cells [.bool, .roi .u32])]⟩
def sp_q82 (S_q82 : TS_q82) : List Atom -> (V -> List Blk -> Bool) -> Bool := fun a_ c_ => match a_ with
  | [.bool turn, .bool b, .bool b_1, .ints b_2, .bool b_3, .ints b_4] => S_q82 turn b b_1 b_2 b_3 b_4 (fun r0 r1 => c_ (.ptr 0 0) [⟨105, 1, .cells [.bool r0, .roi .u32 r1]⟩, ⟨105, 1, .cells [.bool b_1, .roi .u32 b_2]⟩, ⟨105, 1, .cells [.bool b_3, .roi .u32 b_4]⟩])
  | _ => false
abbrev F_q82 (S_q82 : TS_q82) : Fs := mkFs shF_q82 (sp_q82 S_q82)

def shF_q81 : FnSh := ⟨[.ptr 0 0, .ptr 1 0, .ptr 2 0], [some (105, 1, .cells [.bool, .nil]), some (105, 1, .cells [.bool, .roi .u32]), some (105, 1, .cells [.bool, .roi .u32])]⟩
def sp_q81 (S_q81 : TS_q81) : List Atom -> (V -> List Blk -> Bool) -> Bool := fun a_ c_ => match a_ with
  | [.bool b, .bool b_1, .ints b_2, .bool b_3, .ints b_4] => S_q81 b b_1 b_2 b_3 b_4 (fun r0 r1 => c_ (.ptr 0 0) [⟨105, 1, .cells [.bool r0, .roi .u32 r1]⟩, ⟨105, 1, .cells [.bool b_1, .roi .u32 b_2]⟩, ⟨105, 1, .cells [.bool b_3, .roi .u32 b_4]⟩])
  | _ => false
abbrev F_q81 (S_q81 : TS_q81) : Fs := mkFs shF_q81 (sp_q81 S_q81)

def shF_q93 : FnSh := ⟨[.ptr 0 0, .int .i64], [some (105, 1, .cells [.bool, .nil])]⟩
def sp_q93 (S_q93 : TS_q93) : List Atom -> (V -> List Blk -> Bool) -> Bool := fun a_ c_ => match a_ with
  | [.int n, .bool b] => S_q93 n b (fun r0 r1 => c_ (.ptr 0 0) [⟨105, 1, .cells [.bool r0, .roi .u32 r1]⟩])
  | _ => false
abbrev F_q93 (S_q93 : TS_q93) : Fs := mkFs shF_q93 (sp_q93 S_q93)

def shF_q15 : FnSh := ⟨[.int .i64], []⟩
def sp_q15 (S_q15 : TS_q15) : List Atom -> (V -> List Blk -> Bool) -> Bool := fun a_ c_ => match a_ with
  | [.int n] => S_q15 n (fun r0 r1 => c_ (.ptr 0 0) [⟨105, 1, .cells [.bool r0, .roi .u32 r1]⟩])
  | _ => false
abbrev F_q15 (S_q15 : TS_q15) : Fs := mkFs shF_q15 (sp_q15 S_q15)

def shF_q112 : FnSh := ⟨[.ptr 0 0, .ptr 1 0], [some (105, 1, .cells [.bool, .roi .u32]), some (105, 1, .cells [.bool, .roi .u32])]⟩
def sp_q112 (S_q112 : TS_q112) : List Atom -> (V -> List Blk -> Bool) -> Bool := fun a_ c_ => match a_ with
  | [.bool b, .ints b_1, .bool b_2, .ints b_3] => S_q112 b b_1 b_2 b_3 (fun r0 => c_ (.int .i64 r0) [⟨105, 1, .cells [.bool b, .roi .u32 b_1]⟩, ⟨105, 1, .cells [.bool b_2, .roi .u32 b_3]⟩])
  | _ => false
abbrev F_q112 (S_q112 : TS_q112) : Fs := mkFs shF_q112 (sp_q112 S_q112)

def shF_q60 : FnSh := ⟨[.ptr 0 0, .int .i64, .litB false], [some (105, 1, .cells [.bool, .roi .u32])]⟩
def sp_q60 (S_q60 : TS_q60) : List Atom -> (V -> List Blk -> Bool) -> Bool := fun a_ c_ => match a_ with
  | [.int s, .bool b, .ints b_1] => S_q60 s b b_1 (fun r0 r3 r4 => c_ (.tup [.ptr 1 0, .int .i64 r0]) [⟨105, 1, .cells [.bool b, .roi .u32 b_1]⟩, ⟨105, 1, .cells [.bool r3, .roi .u32 r4]⟩])
  | _ => false
abbrev F_q60 (S_q60 : TS_q60) : Fs := mkFs shF_q60 (sp_q60 S_q60)

def shF_q135 : FnSh := ⟨[.ptr 0 0, .int .i64], [some (105, 1, .cells [.bool, .roi .u32])]⟩
def sp_q135 (S_q135 : TS_q135) : List Atom -> (V -> List Blk -> Bool) -> Bool := fun a_ c_ => match a_ with
  | [.int i, .bool b, .ints b_1] => S_q135 i b b_1 (fun r0 => c_ (.int .u64 r0) [⟨105, 1, .cells [.bool b, .roi .u32 b_1]⟩])
  | _ => false
abbrev F_q135 (S_q135 : TS_q135) : Fs := mkFs shF_q135 (sp_q135 S_q135)

def shF_q22 : FnSh := ⟨[.bool, .ptr 0 0, .int .i64, .litI .i64 0], [some (105, 1, .cells [.bool, .roi .u32])]⟩
def sp_q22 (S_q22 : TS_q22) : List Atom -> (V -> List Blk -> Bool) -> Bool := fun a_ c_ => match a_ with
  | [.bool neg, .int c, .bool b, .ints b_1] => S_q22 neg c b b_1 (fun r0 => c_ (.bool r0) [⟨105, 1, .cells [.bool b, .roi .u32 b_1]⟩])
  | _ => false
abbrev F_q22 (S_q22 : TS_q22) : Fs := mkFs shF_q22 (sp_q22 S_q22)

def shF_q92 : FnSh := ⟨[.ptr 0 0, .ptr 0 0, .ptr 1 0, .bool], [some (105, 1, .cells [.bool, .roi .u32]), some (105, 1, .cells [.bool, .roi .u32])]⟩
def sp_q92 (S_q92 : TS_q92) : List Atom -> (V -> List Blk -> Bool) -> Bool := fun a_ c_ => match a_ with
  | [.bool turn, .bool b, .ints b_1, .bool b_2, .ints b_3] => S_q92 turn b b_1 b_2 b_3 (fun r0 r1 => c_ (.ptr 0 0) [⟨105, 1, .cells [.bool r0, .roi .u32 r1]⟩, ⟨105, 1, .cells [.bool b_2, .roi .u32 b_3]⟩])
  | _ => false
abbrev F_q92 (S_q92 : TS_q92) : Fs := mkFs shF_q92 (sp_q92 S_q92)

def shF_q2 : FnSh := ⟨[.ptr 0 0, .ptr 0 0, .ptr 1 0], [some (105, 1, .cells [.bool, .roi .u32]), some (105, 1, .cells [.bool, .roi .u32])]⟩
def sp_q2 (S_q2 : TS_q2) : List Atom -> (V -> List Blk -> Bool) -> Bool := fun a_ c_ => match a_ with
  | [.bool b, .ints b_1, .bool b_2, .ints b_3] => S_q2 b b_1 b_2 b_3 (fun r0 r1 => c_ (.ptr 0 0) [⟨105, 1, .cells [.bool r0, .roi .u32 r1]⟩, ⟨105, 1, .cells [.bool b_2, .roi .u32 b_3]⟩])
  | _ => false
abbrev F_q2 (S_q2 : TS_q2) : Fs := mkFs shF_q2 (sp_q2 S_q2)

def shF_q9 : FnSh := ⟨[.ptr 0 0, .ptr 0 0, .int .u64], [some (105, 1, .cells [.bool, .roi .u32])]⟩
def sp_q9 (S_q9 : TS_q9) : List Atom -> (V -> List Blk -> Bool) -> Bool := fun a_ c_ => match a_ with
  | [.int n, .bool b, .ints b_1] => S_q9 n b b_1 (fun r0 r1 => c_ (.ptr 0 0) [⟨105, 1, .cells [.bool r0, .roi .u32 r1]⟩])
  | _ => false
abbrev F_q9 (S_q9 : TS_q9) : Fs := mkFs shF_q9 (sp_q9 S_q9)

def shF_q59 : FnSh := ⟨[.agg [.litI .i64 53, .litI .i64 (-1022), .litI .i64 1023, .litI .i64 11], .bool, .litI .i64 0], []⟩
def sp_q59 (S_q59 : TS_q59) : List Atom -> (V -> List Blk -> Bool) -> Bool := fun a_ c_ => match a_ with
  | [.bool neg] => S_q59 neg (fun r0 => c_ (.int .u64 r0) [])
  | _ => false
abbrev F_q59 (S_q59 : TS_q59) : Fs := mkFs shF_q59 (sp_q59 S_q59)

def shF_q6 : FnSh := ⟨[.ptr 0 0], [some (105, 1, .cells [.bool, .roi .u32])]⟩
def sp_q6 (S_q6 : TS_q6) : List Atom -> (V -> List Blk -> Bool) -> Bool := fun a_ c_ => match a_ with
  | [.bool b, .ints b_1] => S_q6 b b_1 (fun r0 => c_ (.int .u64 r0) [⟨105, 1, .cells [.bool b, .roi .u32 b_1]⟩])
  | _ => false
abbrev F_q6 (S_q6 : TS_q6) : Fs := mkFs shF_q6 (sp_q6 S_q6)

def shF_q145 : FnSh := ⟨[.agg [.litI .i64 53, .litI .i64 (-1022), .litI .i64 1023, .litI .i64 11], .bool, .ptr 0 0, .int .i64, .litB false, .litI .i64 0], [some (105, 1, .cells [.bool, .roi .u32])]⟩
def sp_q145 (S_q145 : TS_q145) : List Atom -> (V -> List Blk -> Bool) -> Bool := fun a_ c_ => match a_ with
  | [.bool neg, .int e, .bool b, .ints b_1] => S_q145 neg e b b_1 (fun r0 r1 => c_ (.tup [.int .u64 r0, .int .i64 r1]) [⟨105, 1, .cells [.bool b, .roi .u32 b_1]⟩])
  | _ => false
abbrev F_q145 (S_q145 : TS_q145) : Fs := mkFs shF_q145 (sp_q145 S_q145)

def shF_q111 : FnSh := ⟨[.agg [.litI .i64 53, .litI .i64 (-1022), .litI .i64 1023, .litI .i64 11], .agg [.int .i64, .bool, .ptr 0 0, .int .i64], .litI .i64 0], [some (105, 1, .cells [.bool, .roi .u32])]⟩
def sp_q111 (S_q111 : TS_q111) : List Atom -> (V -> List Blk -> Bool) -> Bool := fun a_ c_ => match a_ with
  | [.int n_0, .bool n_1, .int n_2, .bool b, .ints b_1] => S_q111 n_0 n_1 n_2 b b_1 (fun r0 r1 => c_ (.tup [.int .u64 r0, .int .i64 r1]) [⟨105, 1, .cells [.bool b, .roi .u32 b_1]⟩])
  | _ => false
abbrev F_q111 (S_q111 : TS_q111) : Fs := mkFs shF_q111 (sp_q111 S_q111)

def shF_q148 : FnSh := ⟨[.int .u64, .int .i64, .litI .i64 0], []⟩
def sp_q148 (S_q148 : TS_q148) : List Atom -> (V -> List Blk -> Bool) -> Bool := fun a_ c_ => match a_ with
  | [.int x, .int k_] => S_q148 x k_ (fun r0 r1 r2 => c_ (.tup [.int .u64 r0, .int .i64 r1, .int .i64 r2]) [])
  | _ => false
abbrev F_q148 (S_q148 : TS_q148) : Fs := mkFs shF_q148 (sp_q148 S_q148)

def shF_q73 : FnSh := ⟨[.flt, .int .i64], []⟩
def sp_q73 (S_q73 : TS_q73) : List Atom -> (V -> List Blk -> Bool) -> Bool := fun a_ c_ => match a_ with
  | [.fl x, .int k_] => S_q73 x k_ (fun r0 => c_ (.flt r0) [])
  | _ => false
abbrev F_q73 (S_q73 : TS_q73) : Fs := mkFs shF_q73 (sp_q73 S_q73)

def shF_q189 : FnSh := ⟨[.rof], []⟩
def sp_q189 (S_q189 : TS_q189) : List Atom -> (V -> List Blk -> Bool) -> Bool := fun a_ c_ => match a_ with
  | [.fls l] => S_q189 l (fun r0 r1 r2 r3 => c_ (.agg [.flt r0, .flt r1, .flt r2, .flt r3]) [])
  | _ => false
abbrev F_q189 (S_q189 : TS_q189) : Fs := mkFs shF_q189 (sp_q189 S_q189)

def shF_q107 : FnSh := ⟨[.agg [.flt, .flt, .flt, .flt]], []⟩
def sp_q107 (S_q107 : TS_q107) : List Atom -> (V -> List Blk -> Bool) -> Bool := fun a_ c_ => match a_ with
  | [.fl q_0, .fl q_1, .fl q_2, .fl q_3] => S_q107 q_0 q_1 q_2 q_3 (fun r0 r1 r2 r3 r4 => c_ (.tup [.agg [.flt r0, .flt r1, .flt r2, .flt r3], .int .i64 r4]) [])
  | _ => false
abbrev F_q107 (S_q107 : TS_q107) : Fs := mkFs shF_q107 (sp_q107 S_q107)

def shF_q134 : FnSh := ⟨[.agg [.flt, .flt, .flt]], []⟩
def sp_q134 (S_q134 : TS_q134) : List Atom -> (V -> List Blk -> Bool) -> Bool := fun a_ c_ => match a_ with
  | [.fl v_0, .fl v_1, .fl v_2] => S_q134 v_0 v_1 v_2 (fun r0 r1 r2 r3 r4 => c_ (.tup [.agg [.flt r0, .flt r1, .flt r2, .flt r3], .int .i64 r4]) [])
  | _ => false
abbrev F_q134 (S_q134 : TS_q134) : Fs := mkFs shF_q134 (sp_q134 S_q134)

def shF_q47 : FnSh := ⟨[.agg [.flt, .flt, .flt, .flt], .int .i64, .agg [.flt, .flt, .flt, .flt], .int .i64], []⟩
def sp_q47 (S_q47 : TS_q47) : List Atom -> (V -> List Blk -> Bool) -> Bool := fun a_ c_ => match a_ with
  | [.fl a_0, .fl a_1, .fl a_2, .fl a_3, .int e, .fl b_0, .fl b_1, .fl b_2, .fl b_3, .int n] => S_q47 a_0 a_1 a_2 a_3 e b_0 b_1 b_2 b_3 n (fun r0 => c_ (.bool r0) [])
  | _ => false
abbrev F_q47 (S_q47 : TS_q47) : Fs := mkFs shF_q47 (sp_q47 S_q47)

def shF_q184 : FnSh := ⟨[.rof], []⟩
def sp_q184 (S_q184 : TS_q184) : List Atom -> (V -> List Blk -> Bool) -> Bool := fun a_ c_ => match a_ with
  | [.fls x] => S_q184 x (fun r0 => c_ (.int .i64 r0) [])
  | _ => false
abbrev F_q184 (S_q184 : TS_q184) : Fs := mkFs shF_q184 (sp_q184 S_q184)

def shF_q173 : FnSh := ⟨[.rof], []⟩
def sp_q173 (S_q173 : TS_q173) : List Atom -> (V -> List Blk -> Bool) -> Bool := fun a_ c_ => match a_ with
  | [.fls x] => S_q173 x (fun r0 r1 => c_ (.tup [.int .i64 r0, .bool r1]) [])
  | _ => false
abbrev F_q173 (S_q173 : TS_q173) : Fs := mkFs shF_q173 (sp_q173 S_q173)

def shF_q153 : FnSh := ⟨[.rof, .int .i64], []⟩
def sp_q153 (S_q153 : TS_q153) : List Atom -> (V -> List Blk -> Bool) -> Bool := fun a_ c_ => match a_ with
  | [.fls x, .int k_] => S_q153 x k_ (fun r0 r1 => c_ (.tup [.slw 0, .flt r0]) [⟨24, 1, .flts r1⟩])
  | _ => false
abbrev F_q153 (S_q153 : TS_q153) : Fs := mkFs shF_q153 (sp_q153 S_q153)

def shF_q158 : FnSh := ⟨[.rof], []⟩
def sp_q158 (S_q158 : TS_q158) : List Atom -> (V -> List Blk -> Bool) -> Bool := fun a_ c_ => match a_ with
  | [.fls x] => S_q158 x (fun r0 => c_ (.flt r0) [])
  | _ => false
abbrev F_q158 (S_q158 : TS_q158) : Fs := mkFs shF_q158 (sp_q158 S_q158)

def shF_q166 : FnSh := ⟨[.flt], []⟩
def sp_q166 (S_q166 : TS_q166) : List Atom -> (V -> List Blk -> Bool) -> Bool := fun a_ c_ => match a_ with
  | [.fl x] => S_q166 x (fun r0 => c_ (.bool r0) [])
  | _ => false
abbrev F_q166 (S_q166 : TS_q166) : Fs := mkFs shF_q166 (sp_q166 S_q166)

def shF_q152 : FnSh := ⟨[.rof], []⟩
def sp_q152 (S_q152 : TS_q152) : List Atom -> (V -> List Blk -> Bool) -> Bool := fun a_ c_ => match a_ with
  | [.fls x] => S_q152 x (fun r0 r1 => c_ (.tup [.flt r0, .int .i64 r1]) [])
  | _ => false
abbrev F_q152 (S_q152 : TS_q152) : Fs := mkFs shF_q152 (sp_q152 S_q152)

def shF_q77 : FnSh := ⟨[.agg [.flt, .flt, .flt]], []⟩
def sp_q77 (S_q77 : TS_q77) : List Atom -> (V -> List Blk -> Bool) -> Bool := fun a_ c_ => match a_ with
  | [.fl v_0, .fl v_1, .fl v_2] => S_q77 v_0 v_1 v_2 (fun r0 r1 r2 r3 => c_ (.tup [.agg [.flt r0, .flt r1, .flt r2], .int .i64 r3]) [])
  | _ => false
abbrev F_q77 (S_q77 : TS_q77) : Fs := mkFs shF_q77 (sp_q77 S_q77)

def shF_q91 : FnSh := ⟨[.agg [.flt, .flt, .flt], .agg [.flt, .flt, .flt]], []⟩
def sp_q91 (S_q91 : TS_q91) : List Atom -> (V -> List Blk -> Bool) -> Bool := fun a_ c_ => match a_ with
  | [.fl a_0, .fl a_1, .fl a_2, .fl b_0, .fl b_1, .fl b_2] => S_q91 a_0 a_1 a_2 b_0 b_1 b_2 (fun r0 r1 r2 r3 r4 => c_ (.tup [.agg [.flt r0, .flt r1, .flt r2, .flt r3], .int .i64 r4]) [])
  | _ => false
abbrev F_q91 (S_q91 : TS_q91) : Fs := mkFs shF_q91 (sp_q91 S_q91)

def shF_q177 : FnSh := ⟨[.rof], []⟩
def sp_q177 (S_q177 : TS_q177) : List Atom -> (V -> List Blk -> Bool) -> Bool := fun a_ c_ => match a_ with
  | [.fls x] => S_q177 x (fun r0 => c_ (.int .i64 r0) [])
  | _ => false
abbrev F_q177 (S_q177 : TS_q177) : Fs := mkFs shF_q177 (sp_q177 S_q177)

def shF_q165 : FnSh := ⟨[.rof, .rof], []⟩
def sp_q165 (S_q165 : TS_q165) : List Atom -> (V -> List Blk -> Bool) -> Bool := fun a_ c_ => match a_ with
  | [.fls x, .fls y] => S_q165 x y (fun r0 => c_ (.flt r0) [])
  | _ => false
abbrev F_q165 (S_q165 : TS_q165) : Fs := mkFs shF_q165 (sp_q165 S_q165)

def shF_q138 : FnSh := ⟨[.rof, .int .i64], []⟩
def sp_q138 (S_q138 : TS_q138) : List Atom -> (V -> List Blk -> Bool) -> Bool := fun a_ c_ => match a_ with
  | [.fls x, .int k_] => S_q138 x k_ (fun r0 r1 => c_ (.tup [.slw 0, .flt r0]) [⟨24, 1, .flts r1⟩])
  | _ => false
abbrev F_q138 (S_q138 : TS_q138) : Fs := mkFs shF_q138 (sp_q138 S_q138)

def shF_q89 : FnSh := ⟨[.rof], []⟩
def sp_q89 (S_q89 : TS_q89) : List Atom -> (V -> List Blk -> Bool) -> Bool := fun a_ c_ => match a_ with
  | [.fls x] => S_q89 x (fun r0 r1 => c_ (.tup [.flt r0, .int .i64 r1]) [])
  | _ => false
abbrev F_q89 (S_q89 : TS_q89) : Fs := mkFs shF_q89 (sp_q89 S_q89)

def shF_q105 : FnSh := ⟨[.agg [.flt, .flt, .flt], .agg [.flt, .flt, .flt]], []⟩
def sp_q105 (S_q105 : TS_q105) : List Atom -> (V -> List Blk -> Bool) -> Bool := fun a_ c_ => match a_ with
  | [.fl a_0, .fl a_1, .fl a_2, .fl b_0, .fl b_1, .fl b_2] => S_q105 a_0 a_1 a_2 b_0 b_1 b_2 (fun r0 r1 r2 r3 r4 r5 => c_ (.tup [.agg [.flt r0, .flt r1, .flt r2, .flt r3], .flt r4, .int .i64 r5]) [])
  | _ => false
abbrev F_q105 (S_q105 : TS_q105) : Fs := mkFs shF_q105 (sp_q105 S_q105)

def shF_q62 : FnSh := ⟨[.agg [.int .u64, .int .u64, .int .u64, .int .u64], .agg [.int .u64, .int .u64, .int .u64], .agg [.int .u64, .int .u64, .int .u64]], []⟩
end Go.Proofs.YtccocdgimamdhaaGreatDoor
