/-
  THE MEANINGS, as specifications (written by program).
  Conditions: none.
-/
import Derived.Test.YtccocdgimamdhaaGreatDoorGp
import Derived.Test.YtccocdgimamdhaaGreatDoorMachP
import Derived.Test.YtccocdgimamdhaaGreatDoorProg
namespace Go.Proofs.YtccocdgimamdhaaGreatDoor
open Go Go.Mach Go.Proofs
set_option linter.unusedVariables false
set_option maxRecDepth 50000

noncomputable abbrev Pg : Program := Tryz.prog
def isref : Nat -> Bool := fun g => g == 147 || g == 113 || g == 202 || g == 170 || g == 1000201 || g == 1000182 || g == 1000180 || g == 1000059 || g == 1000090

def shF_q117 : FnSh := ⟨[.fb], []⟩
def sp_q117 (S_q117 : TS_q117) : List Atom -> (V -> List Blk -> Bool) -> Bool := fun a_ c_ => match a_ with
  | [.nat a0] => S_q117 a0 (fun r0 => c_ (.int .u64 r0) [])
  | _ => false
abbrev F_q117 (S_q117 : TS_q117) : Fs := mkFs shF_q117 (sp_q117 S_q117)

def shF_an_of : FnSh := ⟨[.litI .i64 0], []⟩
def sp_an_of (S_an_of : TS_an_of) : List Atom -> (V -> List Blk -> Bool) -> Bool := fun a_ c_ => match a_ with
  | [] => S_an_of (fun r0 r1 r2 => c_ (.agg [.int .u64 r0, .int .i64 r1, .int .i64 r2]) [])
  | _ => false
abbrev F_an_of (S_an_of : TS_an_of) : Fs := mkFs shF_an_of (sp_an_of S_an_of)

def shF_q118 : FnSh := ⟨[.agg [.int .u64, .int .i64, .int .i64]], []⟩
def sp_q118 (S_q118 : TS_q118) : List Atom -> (V -> List Blk -> Bool) -> Bool := fun a_ c_ => match a_ with
  | [.int f_0, .int f_1, .int f_2] => S_q118 f_0 f_1 f_2 (fun r0 => c_ (.int .u64 r0) [])
  | _ => false
abbrev F_q118 (S_q118 : TS_q118) : Fs := mkFs shF_q118 (sp_q118 S_q118)

def shF_q70 : FnSh := ⟨[.agg [.int .u64, .int .i64, .int .i64]], []⟩
def sp_q70 (S_q70 : TS_q70) : List Atom -> (V -> List Blk -> Bool) -> Bool := fun a_ c_ => match a_ with
  | [.int f_0, .int f_1, .int f_2] => S_q70 f_0 f_1 f_2 (fun r0 => c_ (.int .u64 r0) [])
  | _ => false
abbrev F_q70 (S_q70 : TS_q70) : Fs := mkFs shF_q70 (sp_q70 S_q70)

def shF_q69 : FnSh := ⟨[.int .u64, .agg [.int .u64, .int .i64, .int .i64]], []⟩
def sp_q69 (S_q69 : TS_q69) : List Atom -> (V -> List Blk -> Bool) -> Bool := fun a_ c_ => match a_ with
  | [.int b, .int f_0, .int f_1, .int f_2] => S_q69 b f_0 f_1 f_2 (fun r0 => c_ (.bool r0) [])
  | _ => false
abbrev F_q69 (S_q69 : TS_q69) : Fs := mkFs shF_q69 (sp_q69 S_q69)

def shF_q63 : FnSh := ⟨[.agg [.int .u64, .int .i64, .int .i64]], []⟩
def sp_q63 (S_q63 : TS_q63) : List Atom -> (V -> List Blk -> Bool) -> Bool := fun a_ c_ => match a_ with
  | [.int f_0, .int f_1, .int f_2] => S_q63 f_0 f_1 f_2 (fun r0 => c_ (.int .u64 r0) [])
  | _ => false
abbrev F_q63 (S_q63 : TS_q63) : Fs := mkFs shF_q63 (sp_q63 S_q63)

def shF_q133 : FnSh := ⟨[.agg [.int .u64, .int .i64, .int .i64]], []⟩
def sp_q133 (S_q133 : TS_q133) : List Atom -> (V -> List Blk -> Bool) -> Bool := fun a_ c_ => match a_ with
  | [.int f_0, .int f_1, .int f_2] => S_q133 f_0 f_1 f_2 (fun r0 => c_ (.int .u64 r0) [])
  | _ => false
abbrev F_q133 (S_q133 : TS_q133) : Fs := mkFs shF_q133 (sp_q133 S_q133)

def shF_q60 : FnSh := ⟨[.int .u64, .agg [.int .u64, .int .i64, .int .i64]], []⟩
def sp_q60 (S_q60 : TS_q60) : List Atom -> (V -> List Blk -> Bool) -> Bool := fun a_ c_ => match a_ with
  | [.int b, .int f_0, .int f_1, .int f_2] => S_q60 b f_0 f_1 f_2 (fun r0 => c_ (.int .u64 r0) [])
  | _ => false
abbrev F_q60 (S_q60 : TS_q60) : Fs := mkFs shF_q60 (sp_q60 S_q60)

def shF_q22 : FnSh := ⟨[.int .u64, .agg [.int .u64, .int .i64, .int .i64]], []⟩
def sp_q22 (S_q22 : TS_q22) : List Atom -> (V -> List Blk -> Bool) -> Bool := fun a_ c_ => match a_ with
  | [.int b, .int f_0, .int f_1, .int f_2] => S_q22 b f_0 f_1 f_2 (fun r0 r1 r2 => c_ (.tup [.bool r0, .int .i64 r1, .int .u64 r2]) [])
  | _ => false
abbrev F_q22 (S_q22 : TS_q22) : Fs := mkFs shF_q22 (sp_q22 S_q22)

def shF_q21 : FnSh := ⟨[.int .u64, .agg [.int .u64, .int .i64, .int .i64]], []⟩
def sp_q21 (S_q21 : TS_q21) : List Atom -> (V -> List Blk -> Bool) -> Bool := fun a_ c_ => match a_ with
  | [.int b, .int f_0, .int f_1, .int f_2] => S_q21 b f_0 f_1 f_2 (fun r0 => c_ (.int .i64 r0) [])
  | _ => false
abbrev F_q21 (S_q21 : TS_q21) : Fs := mkFs shF_q21 (sp_q21 S_q21)

def shF_q124 : FnSh := ⟨[.fb], []⟩
def sp_q124 (S_q124 : TS_q124) : List Atom -> (V -> List Blk -> Bool) -> Bool := fun a_ c_ => match a_ with
  | [.nat x] => S_q124 x (fun r0 => c_ (.int .i64 r0) [])
  | _ => false
abbrev F_q124 (S_q124 : TS_q124) : Fs := mkFs shF_q124 (sp_q124 S_q124)

def shF_q77 : FnSh := ⟨[.int .u64], []⟩
def sp_q77 (S_q77 : TS_q77) : List Atom -> (V -> List Blk -> Bool) -> Bool := fun a_ c_ => match a_ with
  | [.int a0] => S_q77 a0 (fun r0 => c_ (.flt r0) [])
  | _ => false
abbrev F_q77 (S_q77 : TS_q77) : Fs := mkFs shF_q77 (sp_q77 S_q77)

def shF_q139 : FnSh := ⟨[.fb], []⟩
def sp_q139 (S_q139 : TS_q139) : List Atom -> (V -> List Blk -> Bool) -> Bool := fun a_ c_ => match a_ with
  | [.nat x] => S_q139 x (fun r0 => c_ (.flt r0) [])
  | _ => false
abbrev F_q139 (S_q139 : TS_q139) : Fs := mkFs shF_q139 (sp_q139 S_q139)

def shF_q40 : FnSh := ⟨[.rof], []⟩
def sp_q40 (S_q40 : TS_q40) : List Atom -> (V -> List Blk -> Bool) -> Bool := fun a_ c_ => match a_ with
  | [.fls l] => S_q40 l (fun r0 => c_ (.bool r0) [])
  | _ => false
abbrev F_q40 (S_q40 : TS_q40) : Fs := mkFs shF_q40 (sp_q40 S_q40)

def shF_q7 : FnSh := ⟨[.ro 4 [.flt, .flt, .flt, .flt]], []⟩
def sp_q7 (S_q7 : TS_q7) : List Atom -> (V -> List Blk -> Bool) -> Bool := fun a_ c_ => match a_ with
  | [.fl qs_0, .fl qs_1, .fl qs_2, .fl qs_3] => S_q7 qs_0 qs_1 qs_2 qs_3 (fun r0 => c_ (.bool r0) [])
  | _ => false
abbrev F_q7 (S_q7 : TS_q7) : Fs := mkFs shF_q7 (sp_q7 S_q7)

def shF_q46 : FnSh := ⟨[.agg [.flt, .flt, .flt, .flt]], []⟩
def sp_q46 (S_q46 : TS_q46) : List Atom -> (V -> List Blk -> Bool) -> Bool := fun a_ c_ => match a_ with
  | [.fl q_0, .fl q_1, .fl q_2, .fl q_3] => S_q46 q_0 q_1 q_2 q_3 (c_ (.agg [.flt q_0, .flt q_1, .flt q_2, .flt q_3]) [])
  | _ => false
abbrev F_q46 (S_q46 : TS_q46) : Fs := mkFs shF_q46 (sp_q46 S_q46)

def shF_m_Abs : FnSh := ⟨[.flt], []⟩
def sp_m_Abs (S_m_Abs : TS_m_Abs) : List Atom -> (V -> List Blk -> Bool) -> Bool := fun a_ c_ => match a_ with
  | [.fl x] => S_m_Abs x (fun r0 => c_ (.flt r0) [])
  | _ => false
abbrev F_m_Abs (S_m_Abs : TS_m_Abs) : Fs := mkFs shF_m_Abs (sp_m_Abs S_m_Abs)

def shF_q97 : FnSh := ⟨[.flt, .int .i64], []⟩
def sp_q97 (S_q97 : TS_q97) : List Atom -> (V -> List Blk -> Bool) -> Bool := fun a_ c_ => match a_ with
  | [.fl f, .int sign] => S_q97 f sign (fun r0 => c_ (.bool r0) [])
  | _ => false
abbrev F_q97 (S_q97 : TS_q97) : Fs := mkFs shF_q97 (sp_q97 S_q97)

def shF_q98 : FnSh := ⟨[.flt], []⟩
def sp_q98 (S_q98 : TS_q98) : List Atom -> (V -> List Blk -> Bool) -> Bool := fun a_ c_ => match a_ with
  | [.fl f] => S_q98 f (fun r0 => c_ (.bool r0) [])
  | _ => false
abbrev F_q98 (S_q98 : TS_q98) : Fs := mkFs shF_q98 (sp_q98 S_q98)

def shF_q55 : FnSh := ⟨[.flt], []⟩
def sp_q55 (S_q55 : TS_q55) : List Atom -> (V -> List Blk -> Bool) -> Bool := fun a_ c_ => match a_ with
  | [.fl x] => S_q55 x (fun r0 r1 => c_ (.tup [.flt r0, .int .i64 r1]) [])
  | _ => false
abbrev F_q55 (S_q55 : TS_q55) : Fs := mkFs shF_q55 (sp_q55 S_q55)

def shF_q90 : FnSh := ⟨[.flt], []⟩
def sp_q90 (S_q90 : TS_q90) : List Atom -> (V -> List Blk -> Bool) -> Bool := fun a_ c_ => match a_ with
  | [.fl a0] => S_q90 a0 (fun r0 => c_ (.int .u64 r0) [])
  | _ => false
abbrev F_q90 (S_q90 : TS_q90) : Fs := mkFs shF_q90 (sp_q90 S_q90)

def shF_q135 : FnSh := ⟨[.flt], []⟩
def sp_q135 (S_q135 : TS_q135) : List Atom -> (V -> List Blk -> Bool) -> Bool := fun a_ c_ => match a_ with
  | [.fl f] => S_q135 f (fun r0 r1 => c_ (.tup [.flt r0, .int .i64 r1]) [])
  | _ => false
abbrev F_q135 (S_q135 : TS_q135) : Fs := mkFs shF_q135 (sp_q135 S_q135)

def shF_q132 : FnSh := ⟨[.flt], []⟩
def sp_q132 (S_q132 : TS_q132) : List Atom -> (V -> List Blk -> Bool) -> Bool := fun a_ c_ => match a_ with
  | [.fl f] => S_q132 f (fun r0 r1 => c_ (.tup [.flt r0, .int .i64 r1]) [])
  | _ => false
abbrev F_q132 (S_q132 : TS_q132) : Fs := mkFs shF_q132 (sp_q132 S_q132)

def shF_q75 : FnSh := ⟨[.flt, .flt], []⟩
def sp_q75 (S_q75 : TS_q75) : List Atom -> (V -> List Blk -> Bool) -> Bool := fun a_ c_ => match a_ with
  | [.fl f, .fl sign] => S_q75 f sign (fun r0 => c_ (.flt r0) [])
  | _ => false
abbrev F_q75 (S_q75 : TS_q75) : Fs := mkFs shF_q75 (sp_q75 S_q75)

def shF_m_Inf : FnSh := ⟨[.int .i64], []⟩
def sp_m_Inf (S_m_Inf : TS_m_Inf) : List Atom -> (V -> List Blk -> Bool) -> Bool := fun a_ c_ => match a_ with
  | [.int sign] => S_m_Inf sign (fun r0 => c_ (.flt r0) [])
  | _ => false
abbrev F_m_Inf (S_m_Inf : TS_m_Inf) : Fs := mkFs shF_m_Inf (sp_m_Inf S_m_Inf)

def shF_q131 : FnSh := ⟨[.flt, .int .i64], []⟩
def sp_q131 (S_q131 : TS_q131) : List Atom -> (V -> List Blk -> Bool) -> Bool := fun a_ c_ => match a_ with
  | [.fl frac, .int exp] => S_q131 frac exp (fun r0 => c_ (.flt r0) [])
  | _ => false
abbrev F_q131 (S_q131 : TS_q131) : Fs := mkFs shF_q131 (sp_q131 S_q131)

def shF_q130 : FnSh := ⟨[.flt, .int .i64], []⟩
def sp_q130 (S_q130 : TS_q130) : List Atom -> (V -> List Blk -> Bool) -> Bool := fun a_ c_ => match a_ with
  | [.fl frac, .int exp] => S_q130 frac exp (fun r0 => c_ (.flt r0) [])
  | _ => false
abbrev F_q130 (S_q130 : TS_q130) : Fs := mkFs shF_q130 (sp_q130 S_q130)

def shF_q143 : FnSh := ⟨[.flt], []⟩
def sp_q143 (S_q143 : TS_q143) : List Atom -> (V -> List Blk -> Bool) -> Bool := fun a_ c_ => match a_ with
  | [.fl a0] => S_q143 a0 (fun r0 => c_ (.flt r0) [])
  | _ => false
abbrev F_q143 (S_q143 : TS_q143) : Fs := mkFs shF_q143 (sp_q143 S_q143)

def shF_q137 : FnSh := ⟨[.flt], []⟩
def sp_q137 (S_q137 : TS_q137) : List Atom -> (V -> List Blk -> Bool) -> Bool := fun a_ c_ => match a_ with
  | [.fl x] => S_q137 x (fun r0 => c_ (.flt r0) [])
  | _ => false
abbrev F_q137 (S_q137 : TS_q137) : Fs := mkFs shF_q137 (sp_q137 S_q137)

def shF_q111 : FnSh := ⟨[.agg [.flt, .flt, .flt, .flt]], []⟩
def sp_q111 (S_q111 : TS_q111) : List Atom -> (V -> List Blk -> Bool) -> Bool := fun a_ c_ => match a_ with
  | [.fl l_0, .fl l_1, .fl l_2, .fl l_3] => S_q111 l_0 l_1 l_2 l_3 (c_ (.agg [.flt l_0, .flt l_1, .flt l_2, .flt l_3]) [])
  | _ => false
abbrev F_q111 (S_q111 : TS_q111) : Fs := mkFs shF_q111 (sp_q111 S_q111)

def shF_q110 : FnSh := ⟨[.agg [.flt, .flt, .flt, .flt]], []⟩
def sp_q110 (S_q110 : TS_q110) : List Atom -> (V -> List Blk -> Bool) -> Bool := fun a_ c_ => match a_ with
  | [.fl q_0, .fl q_1, .fl q_2, .fl q_3] => S_q110 q_0 q_1 q_2 q_3 (fun r0 r1 r2 r3 r4 => c_ (.tup [.agg [.flt r0, .flt r1, .flt r2, .flt r3], .int .i64 r4]) [])
  | _ => false
abbrev F_q110 (S_q110 : TS_q110) : Fs := mkFs shF_q110 (sp_q110 S_q110)

def shF_q96 : FnSh := ⟨[.agg [.flt, .flt, .flt], .agg [.flt, .flt, .flt]], []⟩
def sp_q96 (S_q96 : TS_q96) : List Atom -> (V -> List Blk -> Bool) -> Bool := fun a_ c_ => match a_ with
  | [.fl a_0, .fl a_1, .fl a_2, .fl b_0, .fl b_1, .fl b_2] => S_q96 a_0 a_1 a_2 b_0 b_1 b_2 (fun r0 r1 r2 => c_ (.agg [.flt r0, .flt r1, .flt r2]) [])
  | _ => false
abbrev F_q96 (S_q96 : TS_q96) : Fs := mkFs shF_q96 (sp_q96 S_q96)

def shF_q126 : FnSh := ⟨[.agg [.flt, .flt, .flt]], []⟩
def sp_q126 (S_q126 : TS_q126) : List Atom -> (V -> List Blk -> Bool) -> Bool := fun a_ c_ => match a_ with
  | [.fl v_0, .fl v_1, .fl v_2] => S_q126 v_0 v_1 v_2 (fun r0 r1 r2 r3 => c_ (.tup [.agg [.flt r0, .flt r1, .flt r2], .int .i64 r3]) [])
  | _ => false
abbrev F_q126 (S_q126 : TS_q126) : Fs := mkFs shF_q126 (sp_q126 S_q126)

def shF_q114 : FnSh := ⟨[.agg [.flt, .flt, .flt, .flt], .agg [.flt, .flt, .flt]], []⟩
def sp_q114 (S_q114 : TS_q114) : List Atom -> (V -> List Blk -> Bool) -> Bool := fun a_ c_ => match a_ with
  | [.fl q_0, .fl q_1, .fl q_2, .fl q_3, .fl v_0, .fl v_1, .fl v_2] => S_q114 q_0 q_1 q_2 q_3 v_0 v_1 v_2 (fun r0 r1 r2 r3 => c_ (.tup [.agg [.flt r0, .flt r1, .flt r2], .int .i64 r3]) [])
  | _ => false
abbrev F_q114 (S_q114 : TS_q114) : Fs := mkFs shF_q114 (sp_q114 S_q114)

def shF_q76 : FnSh := ⟨[.ro 4 [.flt, .flt, .flt, .flt, .flt, .flt, .flt, .flt]], []⟩
def sp_q76 (S_q76 : TS_q76) : List Atom -> (V -> List Blk -> Bool) -> Bool := fun a_ c_ => match a_ with
  | [.fl qs_0, .fl qs_1, .fl qs_2, .fl qs_3, .fl qs_4, .fl qs_5, .fl qs_6, .fl qs_7] => S_q76 qs_0 qs_1 qs_2 qs_3 qs_4 qs_5 qs_6 qs_7 (fun r0 => c_ (.bool r0) [])
  | _ => false
abbrev F_q76 (S_q76 : TS_q76) : Fs := mkFs shF_q76 (sp_q76 S_q76)

def shF_q125 : FnSh := ⟨[.agg [.flt, .flt, .flt, .flt], .agg [.flt, .flt, .flt, .flt]], []⟩
def sp_q125 (S_q125 : TS_q125) : List Atom -> (V -> List Blk -> Bool) -> Bool := fun a_ c_ => match a_ with
  | [.fl a_0, .fl a_1, .fl a_2, .fl a_3, .fl b_0, .fl b_1, .fl b_2, .fl b_3] => S_q125 a_0 a_1 a_2 a_3 b_0 b_1 b_2 b_3 (fun r0 r1 r2 r3 => c_ (.agg [.flt r0, .flt r1, .flt r2, .flt r3]) [])
  | _ => false
abbrev F_q125 (S_q125 : TS_q125) : Fs := mkFs shF_q125 (sp_q125 S_q125)

def shF_q112 : FnSh := ⟨[.agg [.flt, .flt, .flt, .flt]], []⟩
def sp_q112 (S_q112 : TS_q112) : List Atom -> (V -> List Blk -> Bool) -> Bool := fun a_ c_ => match a_ with
  | [.fl q_0, .fl q_1, .fl q_2, .fl q_3] => S_q112 q_0 q_1 q_2 q_3 (fun r0 r1 r2 r3 r4 => c_ (.tup [.agg [.flt r0, .flt r1, .flt r2, .flt r3], .int .i64 r4]) [])
  | _ => false
abbrev F_q112 (S_q112 : TS_q112) : Fs := mkFs shF_q112 (sp_q112 S_q112)

def shF_q88 : FnSh := ⟨[.agg [.flt, .flt, .flt, .flt], .agg [.flt, .flt, .flt, .flt]], []⟩
def sp_q88 (S_q88 : TS_q88) : List Atom -> (V -> List Blk -> Bool) -> Bool := fun a_ c_ => match a_ with
  | [.fl a_0, .fl a_1, .fl a_2, .fl a_3, .fl b_0, .fl b_1, .fl b_2, .fl b_3] => S_q88 a_0 a_1 a_2 a_3 b_0 b_1 b_2 b_3 (fun r0 r1 r2 r3 r4 => c_ (.tup [.agg [.flt r0, .flt r1, .flt r2, .flt r3], .int .i64 r4]) [])
  | _ => false
abbrev F_q88 (S_q88 : TS_q88) : Fs := mkFs shF_q88 (sp_q88 S_q88)

def shF_q107 : FnSh := ⟨[.flt], []⟩
def sp_q107 (S_q107 : TS_q107) : List Atom -> (V -> List Blk -> Bool) -> Bool := fun a_ c_ => match a_ with
  | [.fl x] => S_q107 x (fun r0 => c_ (.int .i64 r0) [])
  | _ => false
abbrev F_q107 (S_q107 : TS_q107) : Fs := mkFs shF_q107 (sp_q107 S_q107)

def shF_q78 : FnSh := ⟨[.rof], []⟩
def sp_q78 (S_q78 : TS_q78) : List Atom -> (V -> List Blk -> Bool) -> Bool := fun a_ c_ => match a_ with
  | [.fls l] => S_q78 l (fun r0 => c_ (.bool r0) [])
  | _ => false
abbrev F_q78 (S_q78 : TS_q78) : Fs := mkFs shF_q78 (sp_q78 S_q78)

def shF_q4 : FnSh := ⟨[.int .u64], []⟩
def sp_q4 (S_q4 : TS_q4) : List Atom -> (V -> List Blk -> Bool) -> Bool := fun a_ c_ => match a_ with
  | [.int x] => S_q4 x (fun r0 => c_ (.int .i64 r0) [])
  | _ => false
abbrev F_q4 (S_q4 : TS_q4) : Fs := mkFs shF_q4 (sp_q4 S_q4)

def shF_q57 : FnSh := ⟨[.int .u64, .agg [.int .u64, .int .i64, .int .i64]], []⟩
def sp_q57 (S_q57 : TS_q57) : List Atom -> (V -> List Blk -> Bool) -> Bool := fun a_ c_ => match a_ with
  | [.int b, .int f_0, .int f_1, .int f_2] => S_q57 b f_0 f_1 f_2 (fun r0 r1 r2 r3 => c_ (.tup [.agg [.bool r0, .int .u64 r1, .int .i64 r2], .int .i64 r3]) [])
  | _ => false
abbrev F_q57 (S_q57 : TS_q57) : Fs := mkFs shF_q57 (sp_q57 S_q57)

def shF_q127 : FnSh := ⟨[.flt], []⟩
def sp_q127 (S_q127 : TS_q127) : List Atom -> (V -> List Blk -> Bool) -> Bool := fun a_ c_ => match a_ with
  | [.fl x] => S_q127 x (fun r0 r1 r2 r3 => c_ (.tup [.agg [.bool r0, .int .u64 r1, .int .i64 r2], .int .i64 r3]) [])
  | _ => false
abbrev F_q127 (S_q127 : TS_q127) : Fs := mkFs shF_q127 (sp_q127 S_q127)

def shF_q1 : FnSh := ⟨[.slw 0], [some (41, 1, .ints .u64)]⟩
def sp_q1 (S_q1 : TS_q1) : List Atom -> (V -> List Blk -> Bool) -> Bool := fun a_ c_ => match a_ with
  | [.ints b] => S_q1 b (fun r0 r1 => c_ (.sl 0 r0 r1) [⟨41, 1, .ints .u64 b⟩])
  | _ => false
abbrev F_q1 (S_q1 : TS_q1) : Fs := mkFs shF_q1 (sp_q1 S_q1)

def shF_q100 : FnSh := ⟨[.int .u64], []⟩
def sp_q100 (S_q100 : TS_q100) : List Atom -> (V -> List Blk -> Bool) -> Bool := fun a_ c_ => match a_ with
  | [.int n] => S_q100 n (fun r0 => c_ (.roi .u64 r0) [])
  | _ => false
abbrev F_q100 (S_q100 : TS_q100) : Fs := mkFs shF_q100 (sp_q100 S_q100)

def shF_q0 : FnSh := ⟨[.ptr 0 0, .bool, .roi .u64], [some (164, 1, .cells [.bool, .nil])]⟩
def sp_q0 (S_q0 : TS_q0) : List Atom -> (V -> List Blk -> Bool) -> Bool := fun a_ c_ => match a_ with
  | [.bool neg, .ints abs, .bool b] => S_q0 neg abs b (fun r0 => c_ (.ptr 0 0) [⟨164, 1, .cells [.bool r0, .roi .u64 abs]⟩])
  | _ => false
abbrev F_q0 (S_q0 : TS_q0) : Fs := mkFs shF_q0 (sp_q0 S_q0)

def shF_q44 : FnSh := ⟨[.ptr 0 0, .int .u64], [some (164, 1, .cells [.bool, .nil])]⟩
def sp_q44 (S_q44 : TS_q44) : List Atom -> (V -> List Blk -> Bool) -> Bool := fun a_ c_ => match a_ with
  | [.int n, .bool b] => S_q44 n b (fun r0 r1 => c_ (.ptr 0 0) [⟨164, 1, .cells [.bool r0, .roi .u64 r1]⟩])
  | _ => false
abbrev F_q44 (S_q44 : TS_q44) : Fs := mkFs shF_q44 (sp_q44 S_q44)

def shF_q65 : FnSh := ⟨[.roi .u64], []⟩
def sp_q65 (S_q65 : TS_q65) : List Atom -> (V -> List Blk -> Bool) -> Bool := fun a_ c_ => match a_ with
  | [.ints x] => S_q65 x (fun r0 => c_ (.roi .u64 r0) [])
  | _ => false
abbrev F_q65 (S_q65 : TS_q65) : Fs := mkFs shF_q65 (sp_q65 S_q65)

def shF_q25 : FnSh := ⟨[.ptr 0 0, .bool, .roi .u64], [some (164, 1, .cells [.bool, .roi .u64])]⟩
def sp_q25 (S_q25 : TS_q25) : List Atom -> (V -> List Blk -> Bool) -> Bool := fun a_ c_ => match a_ with
  | [.bool neg, .ints abs, .bool b, .ints b_1] => S_q25 neg abs b b_1 (fun r0 => c_ (.ptr 0 0) [⟨164, 1, .cells [.bool r0, .roi .u64 abs]⟩])
  | _ => false
abbrev F_q25 (S_q25 : TS_q25) : Fs := mkFs shF_q25 (sp_q25 S_q25)

def shF_q18 : FnSh := ⟨[.ptr 0 0, .ptr 0 0], [some (164, 1, .cells [.bool, .roi .u64])]⟩
def sp_q18 (S_q18 : TS_q18) : List Atom -> (V -> List Blk -> Bool) -> Bool := fun a_ c_ => match a_ with
  | [.bool b, .ints b_1] => S_q18 b b_1 (fun r0 r1 => c_ (.ptr 0 0) [⟨164, 1, .cells [.bool r0, .roi .u64 r1]⟩])
  | _ => false
abbrev F_q18 (S_q18 : TS_q18) : Fs := mkFs shF_q18 (sp_q18 S_q18)

def shF_q116 : FnSh := ⟨[.flt], []⟩
def sp_q116 (S_q116 : TS_q116) : List Atom -> (V -> List Blk -> Bool) -> Bool := fun a_ c_ => match a_ with
  | [.fl x] => S_q116 x (fun r0 r1 r2 => c_ (.agg [.ptr 0 0, .int .i64 r0]) [⟨164, 1, .cells [.bool r1, .roi .u64 r2]⟩])
  | _ => false
abbrev F_q116 (S_q116 : TS_q116) : Fs := mkFs shF_q116 (sp_q116 S_q116)

def shF_q85 : FnSh := ⟨[.int .u64, .int .u64], []⟩
def sp_q85 (S_q85 : TS_q85) : List Atom -> (V -> List Blk -> Bool) -> Bool := fun a_ c_ => match a_ with
  | [.int x, .int y] => S_q85 x y (fun r0 r1 => c_ (.tup [.int .u64 r0, .int .u64 r1]) [])
  | _ => false
abbrev F_q85 (S_q85 : TS_q85) : Fs := mkFs shF_q85 (sp_q85 S_q85)

def shF_q56 : FnSh := ⟨[.int .u64, .int .u64, .int .u64], []⟩
def sp_q56 (S_q56 : TS_q56) : List Atom -> (V -> List Blk -> Bool) -> Bool := fun a_ c_ => match a_ with
  | [.int a0, .int a1, .int a2] => S_q56 a0 a1 a2 (fun r0 r1 => c_ (.tup [.int .u64 r0, .int .u64 r1]) [])
  | _ => false
abbrev F_q56 (S_q56 : TS_q56) : Fs := mkFs shF_q56 (sp_q56 S_q56)

def shF_q79 : FnSh := ⟨[.int .u64, .int .u64, .int .u64, .int .u64], []⟩
def sp_q79 (S_q79 : TS_q79) : List Atom -> (V -> List Blk -> Bool) -> Bool := fun a_ c_ => match a_ with
  | [.int a, .int b, .int c, .int d] => S_q79 a b c d (fun r0 r1 => c_ (.tup [.int .u64 r0, .int .u64 r1]) [])
  | _ => false
abbrev F_q79 (S_q79 : TS_q79) : Fs := mkFs shF_q79 (sp_q79 S_q79)

def shF_q105 : FnSh := ⟨[.roi .u64, .roi .u64], []⟩
def sp_q105 (S_q105 : TS_q105) : List Atom -> (V -> List Blk -> Bool) -> Bool := fun a_ c_ => match a_ with
  | [.ints x, .ints y] => S_q105 x y (fun r0 => c_ (.roi .u64 r0) [])
  | _ => false
abbrev F_q105 (S_q105 : TS_q105) : Fs := mkFs shF_q105 (sp_q105 S_q105)

def shF_q43 : FnSh := ⟨[.ptr 0 0, .ptr 1 0, .ptr 2 0], [some (164, 1, .cells [.bool, .nil]), some (164, 1, .cells [.bool, .roi .u64]), some (164, 1, .cells [.bool, .roi .u64])]⟩
def sp_q43 (S_q43 : TS_q43) : List Atom -> (V -> List Blk -> Bool) -> Bool := fun a_ c_ => match a_ with
  | [.bool b, .bool b_1, .ints b_2, .bool b_3, .ints b_4] => S_q43 b b_1 b_2 b_3 b_4 (fun r0 r1 => c_ (.ptr 0 0) [⟨164, 1, .cells [.bool r0, .roi .u64 r1]⟩, ⟨164, 1, .cells [.bool b_1, .roi .u64 b_2]⟩, ⟨164, 1, .cells [.bool b_3, .roi .u64 b_4]⟩])
  | _ => false
abbrev F_q43 (S_q43 : TS_q43) : Fs := mkFs shF_q43 (sp_q43 S_q43)

def shF_q14 : FnSh := ⟨[.agg [.ptr 0 0, .int .i64], .agg [.ptr 1 0, .int .i64]], [some (164, 1, .cells [.bool, .roi .u64]), some (164, 1, .cells [.bool, .roi .u64])]⟩
def sp_q14 (S_q14 : TS_q14) : List Atom -> (V -> List Blk -> Bool) -> Bool := fun a_ c_ => match a_ with
  | [.int x, .int y, .bool b, .ints b_1, .bool b_2, .ints b_3] => S_q14 x y b b_1 b_2 b_3 (fun r0 r5 r6 => c_ (.agg [.ptr 2 0, .int .i64 r0]) [⟨164, 1, .cells [.bool b, .roi .u64 b_1]⟩, ⟨164, 1, .cells [.bool b_2, .roi .u64 b_3]⟩, ⟨164, 1, .cells [.bool r5, .roi .u64 r6]⟩])
  | _ => false
abbrev F_q14 (S_q14 : TS_q14) : Fs := mkFs shF_q14 (sp_q14 S_q14)

def shF_q64 : FnSh := ⟨[.ptr 0 0], [some (164, 1, .cells [.bool, .nil])]⟩
def sp_q64 (S_q64 : TS_q64) : List Atom -> (V -> List Blk -> Bool) -> Bool := fun a_ c_ => match a_ with
  | [.bool b] => S_q64 b (fun r0 r2 => c_ (.int .i64 r0) [⟨164, 1, .cells [.bool b, .roi .u64 r2]⟩])
  | _ => false
abbrev F_q64 (S_q64 : TS_q64) : Fs := mkFs shF_q64 (sp_q64 S_q64)

def shF_q3 : FnSh := ⟨[.ptr 0 0], [some (164, 1, .cells [.bool, .roi .u64])]⟩
def sp_q3 (S_q3 : TS_q3) : List Atom -> (V -> List Blk -> Bool) -> Bool := fun a_ c_ => match a_ with
  | [.bool b, .ints b_1] => S_q3 b b_1 (fun r0 => c_ (.int .i64 r0) [⟨164, 1, .cells [.bool b, .roi .u64 b_1]⟩])
  | _ => false
abbrev F_q3 (S_q3 : TS_q3) : Fs := mkFs shF_q3 (sp_q3 S_q3)

def shF_q80 : FnSh := ⟨[.roi .u64, .int .u64], []⟩
def sp_q80 (S_q80 : TS_q80) : List Atom -> (V -> List Blk -> Bool) -> Bool := fun a_ c_ => match a_ with
  | [.ints x, .int n] => S_q80 x n (fun r0 => c_ (.roi .u64 r0) [])
  | _ => false
abbrev F_q80 (S_q80 : TS_q80) : Fs := mkFs shF_q80 (sp_q80 S_q80)

def shF_q54 : FnSh := ⟨[.ptr 0 0, .ptr 1 0, .int .u64], [some (164, 1, .cells [.bool, .nil]), some (164, 1, .cells [.bool, .roi .u64])]⟩
def sp_q54 (S_q54 : TS_q54) : List Atom -> (V -> List Blk -> Bool) -> Bool := fun a_ c_ => match a_ with
  | [.int n, .bool b, .bool b_1, .ints b_2] => S_q54 n b b_1 b_2 (fun r0 r1 => c_ (.ptr 0 0) [⟨164, 1, .cells [.bool r0, .roi .u64 r1]⟩, ⟨164, 1, .cells [.bool b_1, .roi .u64 b_2]⟩])
  | _ => false
abbrev F_q54 (S_q54 : TS_q54) : Fs := mkFs shF_q54 (sp_q54 S_q54)

def shF_q26 : FnSh := ⟨[.agg [.ptr 0 0, .int .i64], .int .i64], [some (164, 1, .cells [.bool, .roi .u64])]⟩
def sp_q26 (S_q26 : TS_q26) : List Atom -> (V -> List Blk -> Bool) -> Bool := fun a_ c_ => match a_ with
  | [.int x, .int e, .bool b, .ints b_1] => S_q26 x e b b_1 (fun r2 r3 => c_ (.ptr 1 0) [⟨164, 1, .cells [.bool b, .roi .u64 b_1]⟩, ⟨164, 1, .cells [.bool r2, .roi .u64 r3]⟩])
  | _ => false
abbrev F_q26 (S_q26 : TS_q26) : Fs := mkFs shF_q26 (sp_q26 S_q26)

def shF_q12 : FnSh := ⟨[.roi .u64, .int .i64], []⟩
def sp_q12 (S_q12 : TS_q12) : List Atom -> (V -> List Blk -> Bool) -> Bool := fun a_ c_ => match a_ with
  | [.ints x, .int i] => S_q12 x i (fun r0 => c_ (.int .u64 r0) [])
  | _ => false
abbrev F_q12 (S_q12 : TS_q12) : Fs := mkFs shF_q12 (sp_q12 S_q12)

def shF_q115 : FnSh := ⟨[.roi .u64, .roi .u64], []⟩
def sp_q115 (S_q115 : TS_q115) : List Atom -> (V -> List Blk -> Bool) -> Bool := fun a_ c_ => match a_ with
  | [.ints x, .ints y] => S_q115 x y (fun r0 => c_ (.roi .u64 r0) [])
  | _ => false
abbrev F_q115 (S_q115 : TS_q115) : Fs := mkFs shF_q115 (sp_q115 S_q115)

def shF_q89 : FnSh := ⟨[.roi .u64, .roi .u64], []⟩
def sp_q89 (S_q89 : TS_q89) : List Atom -> (V -> List Blk -> Bool) -> Bool := fun a_ c_ => match a_ with
  | [.ints x, .ints y] => S_q89 x y (fun r0 => c_ (.int .i64 r0) [])
  | _ => false
abbrev F_q89 (S_q89 : TS_q89) : Fs := mkFs shF_q89 (sp_q89 S_q89)

def shF_q71 : FnSh := ⟨[.int .u64, .int .u64, .int .u64], []⟩
def sp_q71 (S_q71 : TS_q71) : List Atom -> (V -> List Blk -> Bool) -> Bool := fun a_ c_ => match a_ with
  | [.int a0, .int a1, .int a2] => S_q71 a0 a1 a2 (fun r0 r1 => c_ (.tup [.int .u64 r0, .int .u64 r1]) [])
  | _ => false
abbrev F_q71 (S_q71 : TS_q71) : Fs := mkFs shF_q71 (sp_q71 S_q71)

def shF_q121 : FnSh := ⟨[.roi .u64, .roi .u64], []⟩
def sp_q121 (S_q121 : TS_q121) : List Atom -> (V -> List Blk -> Bool) -> Bool := fun a_ c_ => match a_ with
  | [.ints x, .ints y] => S_q121 x y (fun r0 => c_ (.roi .u64 r0) [])
  | _ => false
abbrev F_q121 (S_q121 : TS_q121) : Fs := mkFs shF_q121 (sp_q121 S_q121)

def shF_q52 : FnSh := ⟨[.ptr 0 0, .ptr 1 0, .bool, .roi .u64], [some (164, 1, .cells [.bool, .nil]), some (164, 1, .cells [.bool, .roi .u64])]⟩
def sp_q52 (S_q52 : TS_q52) : List Atom -> (V -> List Blk -> Bool) -> Bool := fun a_ c_ => match a_ with
  | [.bool neg, .ints y, .bool b, .bool b_1, .ints b_2] => S_q52 neg y b b_1 b_2 (fun r0 r1 => c_ (.ptr 0 0) [⟨164, 1, .cells [.bool r0, .roi .u64 r1]⟩, ⟨164, 1, .cells [.bool b_1, .roi .u64 b_2]⟩])
  | _ => false
abbrev F_q52 (S_q52 : TS_q52) : Fs := mkFs shF_q52 (sp_q52 S_q52)

def shF_q19 : FnSh := ⟨[.ptr 0 0, .ptr 1 0, .ptr 2 0], [some (164, 1, .cells [.bool, .nil]), some (164, 1, .cells [.bool, .roi .u64]), some (164, 1, .cells [.bool, .roi .u64])]⟩
def sp_q19 (S_q19 : TS_q19) : List Atom -> (V -> List Blk -> Bool) -> Bool := fun a_ c_ => match a_ with
  | [.bool b, .bool b_1, .ints b_2, .bool b_3, .ints b_4] => S_q19 b b_1 b_2 b_3 b_4 (fun r0 r1 => c_ (.ptr 0 0) [⟨164, 1, .cells [.bool r0, .roi .u64 r1]⟩, ⟨164, 1, .cells [.bool b_1, .roi .u64 b_2]⟩, ⟨164, 1, .cells [.bool b_3, .roi .u64 b_4]⟩])
  | _ => false
abbrev F_q19 (S_q19 : TS_q19) : Fs := mkFs shF_q19 (sp_q19 S_q19)

def shF_q13 : FnSh := ⟨[.agg [.ptr 0 0, .int .i64], .agg [.ptr 1 0, .int .i64]], [some (164, 1, .cells [.bool, .nil]), some (164, 1, .cells [.bool, .roi .u64])]⟩
def sp_q13 (S_q13 : TS_q13) : List Atom -> (V -> List Blk -> Bool) -> Bool := fun a_ c_ => match a_ with
  | [.int x, .int y, .bool b, .bool b_1, .ints b_2] => S_q13 x y b b_1 b_2 (fun r2 => c_ (.agg [.ptr 1 0, .int .i64 y]) [⟨164, 1, .cells [.bool b, .roi .u64 r2]⟩, ⟨164, 1, .cells [.bool b_1, .roi .u64 b_2]⟩]) (fun r2 => c_ (.agg [.ptr 0 0, .int .i64 x]) [⟨164, 1, .cells [.bool b, .roi .u64 r2]⟩, ⟨164, 1, .cells [.bool b_1, .roi .u64 b_2]⟩]) (fun r0 r2 r5 r6 => c_ (.agg [.ptr 2 0, .int .i64 r0]) [⟨164, 1, .cells [.bool b, .roi .u64 r2]⟩, ⟨164, 1, .cells [.bool b_1, .roi .u64 b_2]⟩, ⟨164, 1, .cells [.bool r5, .roi .u64 r6]⟩])
  | _ => false
abbrev F_q13 (S_q13 : TS_q13) : Fs := mkFs shF_q13 (sp_q13 S_q13)

def shF_q2 : FnSh := ⟨[.agg [.ptr 0 0, .int .i64], .agg [.ptr 1 0, .int .i64]], [some (164, 1, .cells [.bool, .roi .u64]), some (164, 1, .cells [.bool, .roi .u64])]⟩
def sp_q2 (S_q2 : TS_q2) : List Atom -> (V -> List Blk -> Bool) -> Bool := fun a_ c_ => match a_ with
  | [.int x, .int y, .bool b, .ints b_1, .bool b_2, .ints b_3] => S_q2 x y b b_1 b_2 b_3 (c_ (.agg [.ptr 1 0, .int .i64 y]) [⟨164, 1, .cells [.bool b, .roi .u64 b_1]⟩, ⟨164, 1, .cells [.bool b_2, .roi .u64 b_3]⟩]) (c_ (.agg [.ptr 0 0, .int .i64 x]) [⟨164, 1, .cells [.bool b, .roi .u64 b_1]⟩, ⟨164, 1, .cells [.bool b_2, .roi .u64 b_3]⟩]) (fun r0 r5 r6 => c_ (.agg [.ptr 2 0, .int .i64 r0]) [⟨164, 1, .cells [.bool b, .roi .u64 b_1]⟩, ⟨164, 1, .cells [.bool b_2, .roi .u64 b_3]⟩, ⟨164, 1, .cells [.bool r5, .roi .u64 r6]⟩])
  | _ => false
abbrev F_q2 (S_q2 : TS_q2) : Fs := mkFs shF_q2 (sp_q2 S_q2)

def shF_q29 : FnSh := ⟨[.ptr 0 0, .ptr 1 0], [some (164, 1, .cells [.bool, .nil]), some (164, 1, .cells [.bool, .roi .u64])]⟩
def sp_q29 (S_q29 : TS_q29) : List Atom -> (V -> List Blk -> Bool) -> Bool := fun a_ c_ => match a_ with
  | [.bool b, .bool b_1, .ints b_2] => S_q29 b b_1 b_2 (fun r0 r1 => c_ (.ptr 0 0) [⟨164, 1, .cells [.bool r0, .roi .u64 r1]⟩, ⟨164, 1, .cells [.bool b_1, .roi .u64 b_2]⟩])
  | _ => false
abbrev F_q29 (S_q29 : TS_q29) : Fs := mkFs shF_q29 (sp_q29 S_q29)

def shF_q45 : FnSh := ⟨[.ptr 0 0, .int .i64], [some (164, 1, .cells [.bool, .roi .u64])]⟩
def sp_q45 (S_q45 : TS_q45) : List Atom -> (V -> List Blk -> Bool) -> Bool := fun a_ c_ => match a_ with
  | [.int i, .bool b, .ints b_1] => S_q45 i b b_1 (fun r0 => c_ (.int .u64 r0) [⟨164, 1, .cells [.bool b, .roi .u64 b_1]⟩])
  | _ => false
abbrev F_q45 (S_q45 : TS_q45) : Fs := mkFs shF_q45 (sp_q45 S_q45)

def shF_q6 : FnSh := ⟨[.ptr 0 0], [some (164, 1, .cells [.bool, .roi .u64])]⟩
def sp_q6 (S_q6 : TS_q6) : List Atom -> (V -> List Blk -> Bool) -> Bool := fun a_ c_ => match a_ with
  | [.bool b, .ints b_1] => S_q6 b b_1 (fun r0 => c_ (.int .u64 r0) [⟨164, 1, .cells [.bool b, .roi .u64 b_1]⟩])
  | _ => false
abbrev F_q6 (S_q6 : TS_q6) : Fs := mkFs shF_q6 (sp_q6 S_q6)

def shF_q104 : FnSh := ⟨[.roi .u64, .int .u64], []⟩
def sp_q104 (S_q104 : TS_q104) : List Atom -> (V -> List Blk -> Bool) -> Bool := fun a_ c_ => match a_ with
  | [.ints x, .int n] => S_q104 x n (fun r0 r1 => c_ (.tup [.roi .u64 r0, .bool r1]) [])
  | _ => false
abbrev F_q104 (S_q104 : TS_q104) : Fs := mkFs shF_q104 (sp_q104 S_q104)

def shF_q11 : FnSh := ⟨[.ptr 0 0, .ptr 0 0, .int .u64], [some (164, 1, .cells [.bool, .roi .u64])]⟩
def sp_q11 (S_q11 : TS_q11) : List Atom -> (V -> List Blk -> Bool) -> Bool := fun a_ c_ => match a_ with
  | [.int n, .bool b, .ints b_1] => S_q11 n b b_1 (fun r0 r1 => c_ (.ptr 0 0) [⟨164, 1, .cells [.bool r0, .roi .u64 r1]⟩])
  | _ => false
abbrev F_q11 (S_q11 : TS_q11) : Fs := mkFs shF_q11 (sp_q11 S_q11)

def shF_q15 : FnSh := ⟨[.agg [.ptr 0 0, .int .i64]], [some (164, 1, .cells [.bool, .roi .u64])]⟩
def sp_q15 (S_q15 : TS_q15) : List Atom -> (V -> List Blk -> Bool) -> Bool := fun a_ c_ => match a_ with
  | [.int x, .bool b, .ints b_1] => S_q15 x b b_1 (fun r0 r3 r4 => c_ (.agg [.ptr 1 0, .int .i64 r0]) [⟨164, 1, .cells [.bool b, .roi .u64 b_1]⟩, ⟨164, 1, .cells [.bool r3, .roi .u64 r4]⟩])
  | _ => false
abbrev F_q15 (S_q15 : TS_q15) : Fs := mkFs shF_q15 (sp_q15 S_q15)

def shF_q74 : FnSh := ⟨[.int .u64], []⟩
def sp_q74 (S_q74 : TS_q74) : List Atom -> (V -> List Blk -> Bool) -> Bool := fun a_ c_ => match a_ with
  | [.int x] => S_q74 x (fun r0 => c_ (.int .i64 r0) [])
  | _ => false
abbrev F_q74 (S_q74 : TS_q74) : Fs := mkFs shF_q74 (sp_q74 S_q74)

def shF_q102 : FnSh := ⟨[.roi .u64], []⟩
def sp_q102 (S_q102 : TS_q102) : List Atom -> (V -> List Blk -> Bool) -> Bool := fun a_ c_ => match a_ with
  | [.ints x] => S_q102 x (fun r0 => c_ (.int .i64 r0) [])
  | _ => false
abbrev F_q102 (S_q102 : TS_q102) : Fs := mkFs shF_q102 (sp_q102 S_q102)

def shF_q28 : FnSh := ⟨[.ptr 0 0], [some (164, 1, .cells [.bool, .roi .u64])]⟩
def sp_q28 (S_q28 : TS_q28) : List Atom -> (V -> List Blk -> Bool) -> Bool := fun a_ c_ => match a_ with
  | [.bool b, .ints b_1] => S_q28 b b_1 (fun r0 => c_ (.int .i64 r0) [⟨164, 1, .cells [.bool b, .roi .u64 b_1]⟩])
  | _ => false
abbrev F_q28 (S_q28 : TS_q28) : Fs := mkFs shF_q28 (sp_q28 S_q28)

def shF_q47 : FnSh := ⟨[.ptr 0 0, .int .i64], [some (164, 1, .cells [.bool, .nil])]⟩
def sp_q47 (S_q47 : TS_q47) : List Atom -> (V -> List Blk -> Bool) -> Bool := fun a_ c_ => match a_ with
  | [.int n, .bool b] => S_q47 n b (fun r0 r1 => c_ (.ptr 0 0) [⟨164, 1, .cells [.bool r0, .roi .u64 r1]⟩])
  | _ => false
abbrev F_q47 (S_q47 : TS_q47) : Fs := mkFs shF_q47 (sp_q47 S_q47)

def shF_q51 : FnSh := ⟨[.int .i64], []⟩
def sp_q51 (S_q51 : TS_q51) : List Atom -> (V -> List Blk -> Bool) -> Bool := fun a_ c_ => match a_ with
  | [.int n] => S_q51 n (fun r0 r1 => c_ (.ptr 0 0) [⟨164, 1, .cells [.bool r0, .roi .u64 r1]⟩])
  | _ => false
abbrev F_q51 (S_q51 : TS_q51) : Fs := mkFs shF_q51 (sp_q51 S_q51)

def shF_q27 : FnSh := ⟨[.ptr 0 0, .ptr 1 0], [some (164, 1, .cells [.bool, .nil]), some (164, 1, .cells [.bool, .roi .u64])]⟩
def sp_q27 (S_q27 : TS_q27) : List Atom -> (V -> List Blk -> Bool) -> Bool := fun a_ c_ => match a_ with
  | [.bool b, .bool b_1, .ints b_2] => S_q27 b b_1 b_2 (fun r0 r1 => c_ (.ptr 0 0) [⟨164, 1, .cells [.bool r0, .roi .u64 r1]⟩, ⟨164, 1, .cells [.bool b_1, .roi .u64 b_2]⟩])
  | _ => false
abbrev F_q27 (S_q27 : TS_q27) : Fs := mkFs shF_q27 (sp_q27 S_q27)

def shF_q31 : FnSh := ⟨[.ptr 0 0, .bool, .sl 1], [some (164, 1, .cells [.bool, .nil]), some (41, 1, .ints .u64)]⟩
def sp_q31 (S_q31 : TS_q31) : List Atom -> (V -> List Blk -> Bool) -> Bool := fun a_ c_ => match a_ with
  | [.bool neg, .nat abs_0, .nat abs_1, .bool b, .ints b_1] => S_q31 neg abs_0 abs_1 b b_1 (fun r0 => c_ (.ptr 0 0) [⟨164, 1, .cells [.bool r0, .sl 1 abs_0 abs_1]⟩, ⟨41, 1, .ints .u64 b_1⟩])
  | _ => false
abbrev F_q31 (S_q31 : TS_q31) : Fs := mkFs shF_q31 (sp_q31 S_q31)

def shF_q17 : FnSh := ⟨[.ptr 0 0, .ptr 1 0, .ptr 2 0], [some (164, 1, .cells [.bool, .nil]), some (164, 1, .cells [.bool, .roi .u64]), some (164, 1, .cells [.bool, .roi .u64])]⟩
def sp_q17 (S_q17 : TS_q17) : List Atom -> (V -> List Blk -> Bool) -> Bool := fun a_ c_ => match a_ with
  | [.bool b, .bool b_1, .ints b_2, .bool b_3, .ints b_4] => S_q17 b b_1 b_2 b_3 b_4 (fun r0 r1 => c_ (.ptr 0 0) [⟨164, 1, .cells [.bool r0, .roi .u64 r1]⟩, ⟨164, 1, .cells [.bool b_1, .roi .u64 b_2]⟩, ⟨164, 1, .cells [.bool b_3, .roi .u64 b_4]⟩])
  | _ => false
abbrev F_q17 (S_q17 : TS_q17) : Fs := mkFs shF_q17 (sp_q17 S_q17)

def shF_q134 : FnSh := ⟨[.roi .u64], []⟩
def sp_q134 (S_q134 : TS_q134) : List Atom -> (V -> List Blk -> Bool) -> Bool := fun a_ c_ => match a_ with
  | [.ints x] => S_q134 x (fun r0 => c_ (.int .u64 r0) [])
  | _ => false
abbrev F_q134 (S_q134 : TS_q134) : Fs := mkFs shF_q134 (sp_q134 S_q134)

def shF_q30 : FnSh := ⟨[.ptr 0 0], [some (164, 1, .cells [.bool, .roi .u64])]⟩
def sp_q30 (S_q30 : TS_q30) : List Atom -> (V -> List Blk -> Bool) -> Bool := fun a_ c_ => match a_ with
  | [.bool b, .ints b_1] => S_q30 b b_1 (fun r0 => c_ (.int .u64 r0) [⟨164, 1, .cells [.bool b, .roi .u64 b_1]⟩])
  | _ => false
abbrev F_q30 (S_q30 : TS_q30) : Fs := mkFs shF_q30 (sp_q30 S_q30)

def shF_q10 : FnSh := ⟨[.agg [.ptr 0 0, .int .i64]], [some (164, 1, .cells [.bool, .roi .u64])]⟩
def sp_q10 (S_q10 : TS_q10) : List Atom -> (V -> List Blk -> Bool) -> Bool := fun a_ c_ => match a_ with
  | [.int x, .bool b, .ints b_1] => S_q10 x b b_1 (fun r0 r1 r2 => c_ (.tup [.agg [.bool r0, .nil, .int .i64 r1], .int .i64 r2]) [⟨164, 1, .cells [.bool b, .roi .u64 b_1]⟩]) (fun r0 r1 r2 r5 => c_ (.tup [.agg [.bool r0, .slw 1, .int .i64 r1], .int .i64 r2]) [⟨164, 1, .cells [.bool b, .roi .u64 b_1]⟩, ⟨127, 1, .ints .u32 r5⟩])
  | _ => false
abbrev F_q10 (S_q10 : TS_q10) : Fs := mkFs shF_q10 (sp_q10 S_q10)

def shF_q67 : FnSh := ⟨[.rof, .rof], []⟩
def sp_q67 (S_q67 : TS_q67) : List Atom -> (V -> List Blk -> Bool) -> Bool := fun a_ c_ => match a_ with
  | [.fls a, .fls b] => S_q67 a b (fun r0 r1 r2 => c_ (.tup [.agg [.bool r0, .nil, .int .i64 r1], .int .i64 r2]) []) (fun r0 r1 r2 r3 => c_ (.tup [.agg [.bool r0, .slw 0, .int .i64 r1], .int .i64 r2]) [⟨127, 1, .ints .u32 r3⟩])
  | _ => false
abbrev F_q67 (S_q67 : TS_q67) : Fs := mkFs shF_q67 (sp_q67 S_q67)

def shF_q99 : FnSh := ⟨[.agg [.bool, .roi .u32, .int .i64]], []⟩
def sp_q99 (S_q99 : TS_q99) : List Atom -> (V -> List Blk -> Bool) -> Bool := fun a_ c_ => match a_ with
  | [.bool d_0, .ints d_1, .int d_2] => S_q99 d_0 d_1 d_2 (fun r0 => c_ (.bool r0) [])
  | _ => false
abbrev F_q99 (S_q99 : TS_q99) : Fs := mkFs shF_q99 (sp_q99 S_q99)

def shF_q34 : FnSh := ⟨[.ptr 0 0, .ptr 0 0, .int .u64], [some (164, 1, .cells [.bool, .nil])]⟩
def sp_q34 (S_q34 : TS_q34) : List Atom -> (V -> List Blk -> Bool) -> Bool := fun a_ c_ => match a_ with
  | [.int n, .bool b] => S_q34 n b (fun r0 r1 => c_ (.ptr 0 0) [⟨164, 1, .cells [.bool r0, .roi .u64 r1]⟩])
  | _ => false
abbrev F_q34 (S_q34 : TS_q34) : Fs := mkFs shF_q34 (sp_q34 S_q34)

def shF_q32 : FnSh := ⟨[.ptr 0 0, .bool, .sl 1], [some (164, 1, .cells [.bool, .roi .u64]), some (41, 1, .ints .u64)]⟩
def sp_q32 (S_q32 : TS_q32) : List Atom -> (V -> List Blk -> Bool) -> Bool := fun a_ c_ => match a_ with
  | [.bool neg, .nat abs_0, .nat abs_1, .bool b, .ints b_1, .ints b_2] => S_q32 neg abs_0 abs_1 b b_1 b_2 (fun r0 => c_ (.ptr 0 0) [⟨164, 1, .cells [.bool r0, .sl 1 abs_0 abs_1]⟩, ⟨41, 1, .ints .u64 b_2⟩])
  | _ => false
abbrev F_q32 (S_q32 : TS_q32) : Fs := mkFs shF_q32 (sp_q32 S_q32)

def shF_q23 : FnSh := ⟨[.ptr 0 0, .ptr 0 0, .ptr 1 0], [some (164, 1, .cells [.bool, .roi .u64]), some (164, 1, .cells [.bool, .roi .u64])]⟩
def sp_q23 (S_q23 : TS_q23) : List Atom -> (V -> List Blk -> Bool) -> Bool := fun a_ c_ => match a_ with
  | [.bool b, .ints b_1, .bool b_2, .ints b_3] => S_q23 b b_1 b_2 b_3 (fun r0 r1 => c_ (.ptr 0 0) [⟨164, 1, .cells [.bool r0, .roi .u64 r1]⟩, ⟨164, 1, .cells [.bool b_2, .roi .u64 b_3]⟩])
  | _ => false
abbrev F_q23 (S_q23 : TS_q23) : Fs := mkFs shF_q23 (sp_q23 S_q23)

def shF_q38 : FnSh := ⟨[.ptr 0 0, .ptr 0 0, .int .u64], [some (164, 1, .cells [.bool, .roi .u64])]⟩
def sp_q38 (S_q38 : TS_q38) : List Atom -> (V -> List Blk -> Bool) -> Bool := fun a_ c_ => match a_ with
  | [.int n, .bool b, .ints b_1] => S_q38 n b b_1 (fun r0 r1 => c_ (.ptr 0 0) [⟨164, 1, .cells [.bool r0, .roi .u64 r1]⟩])
  | _ => false
abbrev F_q38 (S_q38 : TS_q38) : Fs := mkFs shF_q38 (sp_q38 S_q38)

def shF_q84 : FnSh := ⟨[.agg [.bool, .roi .u32, .int .i64]], []⟩
def sp_q84 (S_q84 : TS_q84) : List Atom -> (V -> List Blk -> Bool) -> Bool := fun a_ c_ => match a_ with
  | [.bool d_0, .ints d_1, .int d_2] => S_q84 d_0 d_1 d_2 (fun r1 r2 => c_ (.agg [.ptr 0 0, .int .i64 d_2]) [⟨164, 1, .cells [.bool r1, .roi .u64 r2]⟩])
  | _ => false
abbrev F_q84 (S_q84 : TS_q84) : Fs := mkFs shF_q84 (sp_q84 S_q84)

def shF_q35 : FnSh := ⟨[.ptr 0 0, .ptr 1 0], [some (164, 1, .cells [.bool, .nil]), some (164, 1, .cells [.bool, .roi .u64])]⟩
def sp_q35 (S_q35 : TS_q35) : List Atom -> (V -> List Blk -> Bool) -> Bool := fun a_ c_ => match a_ with
  | [.bool b, .bool b_1, .ints b_2] => S_q35 b b_1 b_2 (fun r0 r1 => c_ (.ptr 0 0) [⟨164, 1, .cells [.bool r0, .roi .u64 r1]⟩, ⟨164, 1, .cells [.bool b_1, .roi .u64 b_2]⟩])
  | _ => false
abbrev F_q35 (S_q35 : TS_q35) : Fs := mkFs shF_q35 (sp_q35 S_q35)

def shF_q58 : FnSh := ⟨[.agg [.ptr 0 0, .int .i64], .agg [.ptr 1 0, .int .i64]], [some (164, 1, .cells [.bool, .roi .u64]), some (164, 1, .cells [.bool, .roi .u64])]⟩
def sp_q58 (S_q58 : TS_q58) : List Atom -> (V -> List Blk -> Bool) -> Bool := fun a_ c_ => match a_ with
  | [.int x, .int y, .bool b, .ints b_1, .bool b_2, .ints b_3] => S_q58 x y b b_1 b_2 b_3 (fun r0 r5 r6 => c_ (.agg [.ptr 2 0, .int .i64 r0]) [⟨164, 1, .cells [.bool b, .roi .u64 b_1]⟩, ⟨164, 1, .cells [.bool b_2, .roi .u64 b_3]⟩, ⟨164, 1, .cells [.bool r5, .roi .u64 r6]⟩]) (c_ (.agg [.ptr 0 0, .int .i64 x]) [⟨164, 1, .cells [.bool b, .roi .u64 b_1]⟩, ⟨164, 1, .cells [.bool b_2, .roi .u64 b_3]⟩])
  | _ => false
abbrev F_q58 (S_q58 : TS_q58) : Fs := mkFs shF_q58 (sp_q58 S_q58)

def shF_q92 : FnSh := ⟨[.agg [.bool, .roi .u32, .int .i64], .agg [.bool, .roi .u32, .int .i64], .fn 130 []], []⟩
def sp_q92 (S_q92 : TS_q92) : List Atom -> (V -> List Blk -> Bool) -> Bool := fun a_ c_ => match a_ with
  | [.bool a_0, .ints a_1, .int a_2, .bool b_0, .ints b_1, .int b_2] => S_q92 a_0 a_1 a_2 b_0 b_1 b_2 (fun r0 r1 r2 => c_ (.tup [.agg [.bool r0, .nil, .int .i64 r1], .int .i64 r2]) []) (fun r0 r1 r2 r3 => c_ (.tup [.agg [.bool r0, .slw 0, .int .i64 r1], .int .i64 r2]) [⟨127, 1, .ints .u32 r3⟩])
  | _ => false
abbrev F_q92 (S_q92 : TS_q92) : Fs := mkFs shF_q92 (sp_q92 S_q92)

def shF_q68 : FnSh := ⟨[.agg [.bool, .roi .u32, .int .i64], .agg [.bool, .roi .u32, .int .i64]], []⟩
def sp_q68 (S_q68 : TS_q68) : List Atom -> (V -> List Blk -> Bool) -> Bool := fun a_ c_ => match a_ with
  | [.bool a_0, .ints a_1, .int a_2, .bool b_0, .ints b_1, .int b_2] => S_q68 a_0 a_1 a_2 b_0 b_1 b_2 (fun r0 r1 r2 => c_ (.tup [.agg [.bool r0, .nil, .int .i64 r1], .int .i64 r2]) []) (fun r0 r1 r2 r3 => c_ (.tup [.agg [.bool r0, .slw 0, .int .i64 r1], .int .i64 r2]) [⟨127, 1, .ints .u32 r3⟩])
  | _ => false
abbrev F_q68 (S_q68 : TS_q68) : Fs := mkFs shF_q68 (sp_q68 S_q68)

def shF_q33 : FnSh := ⟨[.agg [.bool, .roi .u32, .int .i64], .agg [.bool, .roi .u32, .int .i64]], []⟩
def sp_q33 (S_q33 : TS_q33) : List Atom -> (V -> List Blk -> Bool) -> Bool := fun a_ c_ => match a_ with
  | [.bool a_0, .ints a_1, .int a_2, .bool b_0, .ints b_1, .int b_2] => S_q33 a_0 a_1 a_2 b_0 b_1 b_2 (fun r0 r1 => c_ (.tup [.int .i64 r0, .int .i64 r1]) [])
  | _ => false
abbrev F_q33 (S_q33 : TS_q33) : Fs := mkFs shF_q33 (sp_q33 S_q33)

def shF_q94 : FnSh := ⟨[.agg [.flt, .flt, .flt, .flt]], []⟩
def sp_q94 (S_q94 : TS_q94) : List Atom -> (V -> List Blk -> Bool) -> Bool := fun a_ c_ => match a_ with
  | [.fl q_0, .fl q_1, .fl q_2, .fl q_3] => S_q94 q_0 q_1 q_2 q_3 (fun r0 => c_ (.bool r0) [])
  | _ => false
abbrev F_q94 (S_q94 : TS_q94) : Fs := mkFs shF_q94 (sp_q94 S_q94)

def shF_q66 : FnSh := ⟨[], []⟩
def sp_q66 (S_q66 : TS_q66) : List Atom -> (V -> List Blk -> Bool) -> Bool := fun a_ c_ => match a_ with
  | [] => S_q66 (fun r0 r1 r2 r3 => c_ (.agg [.flt r0, .flt r1, .flt r2, .flt r3]) [])
  | _ => false
abbrev F_q66 (S_q66 : TS_q66) : Fs := mkFs shF_q66 (sp_q66 S_q66)

def shF_q41 : FnSh := ⟨[], []⟩
def sp_q41 (S_q41 : TS_q41) : List Atom -> (V -> List Blk -> Bool) -> Bool := fun a_ c_ => match a_ with
  | [] => S_q41 (fun r0 => c_ (.bool r0) [])
  | _ => false
abbrev F_q41 (S_q41 : TS_q41) : Fs := mkFs shF_q41 (sp_q41 S_q41)

def shF_q37 : FnSh := ⟨[.agg [.int .i64, .int .i64, .int .i64, .int .i64], .int .i64], []⟩
def sp_q37 (S_q37 : TS_q37) : List Atom -> (V -> List Blk -> Bool) -> Bool := fun a_ c_ => match a_ with
  | [.int l_0, .int l_1, .int l_2, .int l_3, .int k_] => S_q37 l_0 l_1 l_2 l_3 k_ (fun r0 r1 r2 r3 => c_ (.agg [.flt r0, .flt r1, .flt r2, .flt r3]) [])
  | _ => false
abbrev F_q37 (S_q37 : TS_q37) : Fs := mkFs shF_q37 (sp_q37 S_q37)

def shF_q123 : FnSh := ⟨[.agg [.flt, .flt, .flt, .flt]], []⟩
def sp_q123 (S_q123 : TS_q123) : List Atom -> (V -> List Blk -> Bool) -> Bool := fun a_ c_ => match a_ with
  | [.fl q_0, .fl q_1, .fl q_2, .fl q_3] => S_q123 q_0 q_1 q_2 q_3 (fun r0 => c_ (.slw 0) [⟨24, 1, .flts r0⟩])
  | _ => false
abbrev F_q123 (S_q123 : TS_q123) : Fs := mkFs shF_q123 (sp_q123 S_q123)

def shF_q95 : FnSh := ⟨[], []⟩
def sp_q95 (S_q95 : TS_q95) : List Atom -> (V -> List Blk -> Bool) -> Bool := fun a_ c_ => match a_ with
  | [] => S_q95 (fun r0 r1 => c_ (.agg [.ptr 0 0, .int .i64 r0]) [⟨105, 1, .cells [.bool r1, .nil]⟩])
  | _ => false
abbrev F_q95 (S_q95 : TS_q95) : Fs := mkFs shF_q95 (sp_q95 S_q95)

def shF_q122 : FnSh := ⟨[.flt], []⟩
def sp_q122 (S_q122 : TS_q122) : List Atom -> (V -> List Blk -> Bool) -> Bool := fun a_ c_ => match a_ with
  | [.fl x] => S_q122 x (fun r0 => c_ (.int .u64 r0) [])
  | _ => false
abbrev F_q122 (S_q122 : TS_q122) : Fs := mkFs shF_q122 (sp_q122 S_q122)

def shF_q87 : FnSh := ⟨[.flt], []⟩
def sp_q87 (S_q87 : TS_q87) : List Atom -> (V -> List Blk -> Bool) -> Bool := fun a_ c_ => match a_ with
  | [.fl x] => S_q87 x (fun r0 r1 r2 => c_ (.tup [.bool r0, .int .i64 r1, .int .u64 r2]) [])
  | _ => false
abbrev F_q87 (S_q87 : TS_q87) : Fs := mkFs shF_q87 (sp_q87 S_q87)

def shF_q109 : FnSh := ⟨[.int .u64, .int .i64], []⟩
def sp_q109 (S_q109 : TS_q109) : List Atom -> (V -> List Blk -> Bool) -> Bool := fun a_ c_ => match a_ with
  | [.int m, .int e] => S_q109 m e (fun r0 r1 => c_ (.tup [.int .u64 r0, .int .i64 r1]) [])
  | _ => false
abbrev F_q109 (S_q109 : TS_q109) : Fs := mkFs shF_q109 (sp_q109 S_q109)

def shF_q103 : FnSh := ⟨[.flt], []⟩
def sp_q103 (S_q103 : TS_q103) : List Atom -> (V -> List Blk -> Bool) -> Bool := fun a_ c_ => match a_ with
  | [.fl x] => S_q103 x (fun r0 r1 r2 r3 => c_ (.tup [.agg [.bool r0, .int .u64 r1, .int .i64 r2], .int .i64 r3]) [])
  | _ => false
abbrev F_q103 (S_q103 : TS_q103) : Fs := mkFs shF_q103 (sp_q103 S_q103)

def shF_q9 : FnSh := ⟨[.slw 0], [some (127, 1, .ints .u32)]⟩
def sp_q9 (S_q9 : TS_q9) : List Atom -> (V -> List Blk -> Bool) -> Bool := fun a_ c_ => match a_ with
  | [.ints b] => S_q9 b (fun r0 r1 => c_ (.sl 0 r0 r1) [⟨127, 1, .ints .u32 b⟩])
  | _ => false
abbrev F_q9 (S_q9 : TS_q9) : Fs := mkFs shF_q9 (sp_q9 S_q9)

def shF_q113 : FnSh := ⟨[.int .u64], []⟩
def sp_q113 (S_q113 : TS_q113) : List Atom -> (V -> List Blk -> Bool) -> Bool := fun a_ c_ => match a_ with
  | [.int n] => S_q113 n (fun r0 => c_ (.roi .u32 r0) [])
  | _ => false
abbrev F_q113 (S_q113 : TS_q113) : Fs := mkFs shF_q113 (sp_q113 S_q113)

def shF_q128 : FnSh := ⟨[.roi .u32], []⟩
def sp_q128 (S_q128 : TS_q128) : List Atom -> (V -> List Blk -> Bool) -> Bool := fun a_ c_ => match a_ with
  | [.ints m] => S_q128 m (fun r0 => c_ (.roi .u32 r0) [])
  | _ => false
abbrev F_q128 (S_q128 : TS_q128) : Fs := mkFs shF_q128 (sp_q128 S_q128)

def shF_q50 : FnSh := ⟨[.ptr 0 0, .bool, .roi .u32], [some (105, 1, .cells [.bool, .nil])]⟩
def sp_q50 (S_q50 : TS_q50) : List Atom -> (V -> List Blk -> Bool) -> Bool := fun a_ c_ => match a_ with
  | [.bool neg, .ints m, .bool b] => S_q50 neg m b (fun r0 r1 => c_ (.ptr 0 0) [⟨105, 1, .cells [.bool r0, .roi .u32 r1]⟩])
  | _ => false
abbrev F_q50 (S_q50 : TS_q50) : Fs := mkFs shF_q50 (sp_q50 S_q50)

def shF_q59 : FnSh := ⟨[.ptr 0 0, .int .u64], [some (105, 1, .cells [.bool, .nil])]⟩
def sp_q59 (S_q59 : TS_q59) : List Atom -> (V -> List Blk -> Bool) -> Bool := fun a_ c_ => match a_ with
  | [.int n, .bool b] => S_q59 n b (fun r0 r1 => c_ (.ptr 0 0) [⟨105, 1, .cells [.bool r0, .roi .u32 r1]⟩])
  | _ => false
abbrev F_q59 (S_q59 : TS_q59) : Fs := mkFs shF_q59 (sp_q59 S_q59)

def shF_q83 : FnSh := ⟨[.ptr 0 0, .bool, .slw 1], [some (105, 1, .cells [.bool, .roi .u32]), some (127, 1, .ints .u32)]⟩
def sp_q83 (S_q83 : TS_q83) : List Atom -> (V -> List Blk -> Bool) -> Bool := fun a_ c_ => match a_ with
  | [.bool neg, .bool b, .ints b_1, .ints b_2] => S_q83 neg b b_1 b_2 (fun r0 r1 r2 => c_ (.ptr 0 0) [⟨105, 1, .cells [.bool r0, .sl 1 r1 r2]⟩, ⟨127, 1, .ints .u32 b_2⟩])
  | _ => false
abbrev F_q83 (S_q83 : TS_q83) : Fs := mkFs shF_q83 (sp_q83 S_q83)

def shF_q81 : FnSh := ⟨[.ptr 0 0, .ptr 0 0], [some (105, 1, .cells [.bool, .roi .u32])]⟩
def sp_q81 (S_q81 : TS_q81) : List Atom -> (V -> List Blk -> Bool) -> Bool := fun a_ c_ => match a_ with
  | [.bool b, .ints b_1] => S_q81 b b_1 (fun r0 r1 => c_ (.ptr 0 0) [⟨105, 1, .cells [.bool r0, .roi .u32 r1]⟩])
  | _ => false
abbrev F_q81 (S_q81 : TS_q81) : Fs := mkFs shF_q81 (sp_q81 S_q81)

def shF_q108 : FnSh := ⟨[.flt], []⟩
def sp_q108 (S_q108 : TS_q108) : List Atom -> (V -> List Blk -> Bool) -> Bool := fun a_ c_ => match a_ with
  | [.fl x] => S_q108 x (fun r0 r1 r2 => c_ (.agg [.ptr 0 0, .int .i64 r0]) [⟨105, 1, .cells [.bool r1, .roi .u32 r2]⟩])
  | _ => false
abbrev F_q108 (S_q108 : TS_q108) : Fs := mkFs shF_q108 (sp_q108 S_q108)

def shF_q101 : FnSh := ⟨[.roi .u32, .roi .u32], []⟩
def sp_q101 (S_q101 : TS_q101) : List Atom -> (V -> List Blk -> Bool) -> Bool := fun a_ c_ => match a_ with
  | [.ints a, .ints b] => S_q101 a b (fun r0 => c_ (.roi .u32 r0) [])
  | _ => false
abbrev F_q101 (S_q101 : TS_q101) : Fs := mkFs shF_q101 (sp_q101 S_q101)

def shF_q61 : FnSh := ⟨[.ptr 0 0, .ptr 1 0, .ptr 2 0], [some (105, 1, .cells [.bool, .nil]), some (105, 1, .cells [.bool, .roi .u32]), some (105, 1, .cells [.bool, .roi .u32])]⟩
def sp_q61 (S_q61 : TS_q61) : List Atom -> (V -> List Blk -> Bool) -> Bool := fun a_ c_ => match a_ with
  | [.bool b, .bool b_1, .ints b_2, .bool b_3, .ints b_4] => S_q61 b b_1 b_2 b_3 b_4 (fun r0 r1 => c_ (.ptr 0 0) [⟨105, 1, .cells [.bool r0, .roi .u32 r1]⟩, ⟨105, 1, .cells [.bool b_1, .roi .u32 b_2]⟩, ⟨105, 1, .cells [.bool b_3, .roi .u32 b_4]⟩])
  | _ => false
abbrev F_q61 (S_q61 : TS_q61) : Fs := mkFs shF_q61 (sp_q61 S_q61)

def shF_q5 : FnSh := ⟨[.agg [.ptr 0 0, .int .i64], .agg [.ptr 1 0, .int .i64]], [some (105, 1, .cells [.bool, .roi .u32]), some (105, 1, .cells [.bool, .roi .u32])]⟩
def sp_q5 (S_q5 : TS_q5) : List Atom -> (V -> List Blk -> Bool) -> Bool := fun a_ c_ => match a_ with
  | [.int x, .int y, .bool b, .ints b_1, .bool b_2, .ints b_3] => S_q5 x y b b_1 b_2 b_3 (fun r0 r5 r6 => c_ (.agg [.ptr 2 0, .int .i64 r0]) [⟨105, 1, .cells [.bool b, .roi .u32 b_1]⟩, ⟨105, 1, .cells [.bool b_2, .roi .u32 b_3]⟩, ⟨105, 1, .cells [.bool r5, .roi .u32 r6]⟩])
  | _ => false
abbrev F_q5 (S_q5 : TS_q5) : Fs := mkFs shF_q5 (sp_q5 S_q5)

def shF_q91 : FnSh := ⟨[.ptr 0 0], [some (105, 1, .cells [.bool, .nil])]⟩
def sp_q91 (S_q91 : TS_q91) : List Atom -> (V -> List Blk -> Bool) -> Bool := fun a_ c_ => match a_ with
  | [.bool b] => S_q91 b (fun r0 r2 => c_ (.int .i64 r0) [⟨105, 1, .cells [.bool b, .roi .u32 r2]⟩])
  | _ => false
abbrev F_q91 (S_q91 : TS_q91) : Fs := mkFs shF_q91 (sp_q91 S_q91)

def shF_q53 : FnSh := ⟨[.ptr 0 0], [some (105, 1, .cells [.bool, .roi .u32])]⟩
def sp_q53 (S_q53 : TS_q53) : List Atom -> (V -> List Blk -> Bool) -> Bool := fun a_ c_ => match a_ with
  | [.bool b, .ints b_1] => S_q53 b b_1 (fun r0 => c_ (.int .i64 r0) [⟨105, 1, .cells [.bool b, .roi .u32 b_1]⟩])
  | _ => false
abbrev F_q53 (S_q53 : TS_q53) : Fs := mkFs shF_q53 (sp_q53 S_q53)

def shF_q119 : FnSh := ⟨[.roi .u32, .int .u64], []⟩
def sp_q119 (S_q119 : TS_q119) : List Atom -> (V -> List Blk -> Bool) -> Bool := fun a_ c_ => match a_ with
  | [.ints m, .int n] => S_q119 m n (fun r0 => c_ (.roi .u32 r0) [])
  | _ => false
abbrev F_q119 (S_q119 : TS_q119) : Fs := mkFs shF_q119 (sp_q119 S_q119)

def shF_q72 : FnSh := ⟨[.ptr 0 0, .ptr 1 0, .int .u64], [some (105, 1, .cells [.bool, .nil]), some (105, 1, .cells [.bool, .roi .u32])]⟩
def sp_q72 (S_q72 : TS_q72) : List Atom -> (V -> List Blk -> Bool) -> Bool := fun a_ c_ => match a_ with
  | [.int n, .bool b, .bool b_1, .ints b_2] => S_q72 n b b_1 b_2 (fun r0 r1 => c_ (.ptr 0 0) [⟨105, 1, .cells [.bool r0, .roi .u32 r1]⟩, ⟨105, 1, .cells [.bool b_1, .roi .u32 b_2]⟩])
  | _ => false
abbrev F_q72 (S_q72 : TS_q72) : Fs := mkFs shF_q72 (sp_q72 S_q72)

def shF_q20 : FnSh := ⟨[.agg [.ptr 0 0, .int .i64], .int .i64], [some (105, 1, .cells [.bool, .roi .u32])]⟩
def sp_q20 (S_q20 : TS_q20) : List Atom -> (V -> List Blk -> Bool) -> Bool := fun a_ c_ => match a_ with
  | [.int x, .int e, .bool b, .ints b_1] => S_q20 x e b b_1 (c_ (.agg [.ptr 0 0, .int .i64 x]) [⟨105, 1, .cells [.bool b, .roi .u32 b_1]⟩]) (fun r3 r4 => c_ (.agg [.ptr 1 0, .int .i64 e]) [⟨105, 1, .cells [.bool b, .roi .u32 b_1]⟩, ⟨105, 1, .cells [.bool r3, .roi .u32 r4]⟩])
  | _ => false
abbrev F_q20 (S_q20 : TS_q20) : Fs := mkFs shF_q20 (sp_q20 S_q20)

def shF_q120 : FnSh := ⟨[.roi .u32, .roi .u32], []⟩
def sp_q120 (S_q120 : TS_q120) : List Atom -> (V -> List Blk -> Bool) -> Bool := fun a_ c_ => match a_ with
  | [.ints a, .ints b] => S_q120 a b (fun r0 => c_ (.roi .u32 r0) [])
  | _ => false
abbrev F_q120 (S_q120 : TS_q120) : Fs := mkFs shF_q120 (sp_q120 S_q120)

def shF_q86 : FnSh := ⟨[.roi .u32, .roi .u32], []⟩
def sp_q86 (S_q86 : TS_q86) : List Atom -> (V -> List Blk -> Bool) -> Bool := fun a_ c_ => match a_ with
  | [.ints a, .ints b] => S_q86 a b (fun r0 => c_ (.int .i64 r0) [])
  | _ => false
abbrev F_q86 (S_q86 : TS_q86) : Fs := mkFs shF_q86 (sp_q86 S_q86)

def shF_q106 : FnSh := ⟨[.roi .u32, .roi .u32], []⟩
def sp_q106 (S_q106 : TS_q106) : List Atom -> (V -> List Blk -> Bool) -> Bool := fun a_ c_ => match a_ with
  | [.ints a, .ints b] => S_q106 a b (fun r0 => c_ (.roi .u32 r0) [])
  | _ => false
abbrev F_q106 (S_q106 : TS_q106) : Fs := mkFs shF_q106 (sp_q106 S_q106)

def shF_q62 : FnSh := ⟨[.ptr 0 0, .ptr 1 0, .ptr 2 0, .bool], [some (105, 1, .cells [.bool, .nil]), some (105, 1, .cells [.bool, .roi .u32]), some (105, 1, .cells [.bool, .roi .u32])]⟩
def sp_q62 (S_q62 : TS_q62) : List Atom -> (V -> List Blk -> Bool) -> Bool := fun a_ c_ => match a_ with
  | [.bool turn, .bool b, .bool b_1, .ints b_2, .bool b_3, .ints b_4] => S_q62 turn b b_1 b_2 b_3 b_4 (fun r0 r1 => c_ (.ptr 0 0) [⟨105, 1, .cells [.bool r0, .roi .u32 r1]⟩, ⟨105, 1, .cells [.bool b_1, .roi .u32 b_2]⟩, ⟨105, 1, .cells [.bool b_3, .roi .u32 b_4]⟩])
  | _ => false
abbrev F_q62 (S_q62 : TS_q62) : Fs := mkFs shF_q62 (sp_q62 S_q62)

def shF_q36 : FnSh := ⟨[.ptr 0 0, .ptr 1 0, .ptr 2 0], [some (105, 1, .cells [.bool, .nil]), some (105, 1, .cells [.bool, .roi .u32]), some (105, 1, .cells [.bool, .roi .u32])]⟩
def sp_q36 (S_q36 : TS_q36) : List Atom -> (V -> List Blk -> Bool) -> Bool := fun a_ c_ => match a_ with
  | [.bool b, .bool b_1, .ints b_2, .bool b_3, .ints b_4] => S_q36 b b_1 b_2 b_3 b_4 (fun r0 r1 => c_ (.ptr 0 0) [⟨105, 1, .cells [.bool r0, .roi .u32 r1]⟩, ⟨105, 1, .cells [.bool b_1, .roi .u32 b_2]⟩, ⟨105, 1, .cells [.bool b_3, .roi .u32 b_4]⟩])
  | _ => false
abbrev F_q36 (S_q36 : TS_q36) : Fs := mkFs shF_q36 (sp_q36 S_q36)

def shF_q16 : FnSh := ⟨[.agg [.ptr 0 0, .int .i64], .agg [.ptr 1 0, .int .i64]], [some (105, 1, .cells [.bool, .nil]), some (105, 1, .cells [.bool, .roi .u32])]⟩
def sp_q16 (S_q16 : TS_q16) : List Atom -> (V -> List Blk -> Bool) -> Bool := fun a_ c_ => match a_ with
  | [.int x, .int y, .bool b, .bool b_1, .ints b_2] => S_q16 x y b b_1 b_2 (fun r2 => c_ (.agg [.ptr 1 0, .int .i64 y]) [⟨105, 1, .cells [.bool b, .roi .u32 r2]⟩, ⟨105, 1, .cells [.bool b_1, .roi .u32 b_2]⟩]) (fun r2 => c_ (.agg [.ptr 0 0, .int .i64 x]) [⟨105, 1, .cells [.bool b, .roi .u32 r2]⟩, ⟨105, 1, .cells [.bool b_1, .roi .u32 b_2]⟩]) (fun r0 r2 r5 r6 => c_ (.agg [.ptr 2 0, .int .i64 r0]) [⟨105, 1, .cells [.bool b, .roi .u32 r2]⟩, ⟨105, 1, .cells [.bool b_1, .roi .u32 b_2]⟩, ⟨105, 1, .cells [.bool r5, .roi .u32 r6]⟩])
  | _ => false
abbrev F_q16 (S_q16 : TS_q16) : Fs := mkFs shF_q16 (sp_q16 S_q16)

def shF_q8 : FnSh := ⟨[.agg [.ptr 0 0, .int .i64], .agg [.ptr 1 0, .int .i64]], [some (105, 1, .cells [.bool, .roi .u32]), some (105, 1, .cells [.bool, .roi .u32])]⟩
def sp_q8 (S_q8 : TS_q8) : List Atom -> (V -> List Blk -> Bool) -> Bool := fun a_ c_ => match a_ with
  | [.int x, .int y, .bool b, .ints b_1, .bool b_2, .ints b_3] => S_q8 x y b b_1 b_2 b_3 (c_ (.agg [.ptr 1 0, .int .i64 y]) [⟨105, 1, .cells [.bool b, .roi .u32 b_1]⟩, ⟨105, 1, .cells [.bool b_2, .roi .u32 b_3]⟩]) (c_ (.agg [.ptr 0 0, .int .i64 x]) [⟨105, 1, .cells [.bool b, .roi .u32 b_1]⟩, ⟨105, 1, .cells [.bool b_2, .roi .u32 b_3]⟩]) (fun r0 r5 r6 => c_ (.agg [.ptr 2 0, .int .i64 r0]) [⟨105, 1, .cells [.bool b, .roi .u32 b_1]⟩, ⟨105, 1, .cells [.bool b_2, .roi .u32 b_3]⟩, ⟨105, 1, .cells [.bool r5, .roi .u32 r6]⟩])
  | _ => false
abbrev F_q8 (S_q8 : TS_q8) : Fs := mkFs shF_q8 (sp_q8 S_q8)

def shF_q129 : FnSh := ⟨[.rof, .rof], []⟩
def sp_q129 (S_q129 : TS_q129) : List Atom -> (V -> List Blk -> Bool) -> Bool := fun a_ c_ => match a_ with
  | [.fls a, .fls b] => S_q129 a b (fun r0 r1 r2 => c_ (.agg [.ptr 0 0, .int .i64 r0]) [⟨105, 1, .cells [.bool r1, .roi .u32 r2]⟩])
  | _ => false
abbrev F_q129 (S_q129 : TS_q129) : Fs := mkFs shF_q129 (sp_q129 S_q129)

def shF_q42 : FnSh := ⟨[.agg [.flt, .flt, .flt, .flt]], []⟩
def sp_q42 (S_q42 : TS_q42) : List Atom -> (V -> List Blk -> Bool) -> Bool := fun a_ c_ => match a_ with
  | [.fl q_0, .fl q_1, .fl q_2, .fl q_3] => S_q42 q_0 q_1 q_2 q_3 (fun r0 r1 r2 => c_ (.agg [.ptr 0 0, .int .i64 r0]) [⟨105, 1, .cells [.bool r1, .roi .u32 r2]⟩])
  | _ => false
abbrev F_q42 (S_q42 : TS_q42) : Fs := mkFs shF_q42 (sp_q42 S_q42)

def shF_q82 : FnSh := ⟨[.ptr 0 0, .bool, .slw 1], [some (105, 1, .cells [.bool, .nil]), some (127, 1, .ints .u32)]⟩
def sp_q82 (S_q82 : TS_q82) : List Atom -> (V -> List Blk -> Bool) -> Bool := fun a_ c_ => match a_ with
  | [.bool neg, .bool b, .ints b_1] => S_q82 neg b b_1 (fun r0 r1 r2 => c_ (.ptr 0 0) [⟨105, 1, .cells [.bool r0, .sl 1 r1 r2]⟩, ⟨127, 1, .ints .u32 b_1⟩])
  | _ => false
abbrev F_q82 (S_q82 : TS_q82) : Fs := mkFs shF_q82 (sp_q82 S_q82)

def shF_q73 : FnSh := ⟨[.ptr 0 0, .ptr 1 0], [some (105, 1, .cells [.bool, .nil]), some (105, 1, .cells [.bool, .roi .u32])]⟩
def sp_q73 (S_q73 : TS_q73) : List Atom -> (V -> List Blk -> Bool) -> Bool := fun a_ c_ => match a_ with
  | [.bool b, .bool b_1, .ints b_2] => S_q73 b b_1 b_2 (fun r0 r1 => c_ (.ptr 0 0) [⟨105, 1, .cells [.bool r0, .roi .u32 r1]⟩, ⟨105, 1, .cells [.bool b_1, .roi .u32 b_2]⟩])
  | _ => false
abbrev F_q73 (S_q73 : TS_q73) : Fs := mkFs shF_q73 (sp_q73 S_q73)

def shF_q49 : FnSh := ⟨[.agg [.ptr 0 0, .int .i64]], [some (105, 1, .cells [.bool, .roi .u32])]⟩
def sp_q49 (S_q49 : TS_q49) : List Atom -> (V -> List Blk -> Bool) -> Bool := fun a_ c_ => match a_ with
  | [.int x, .bool b, .ints b_1] => S_q49 x b b_1 (fun r3 r4 => c_ (.agg [.ptr 1 0, .int .i64 x]) [⟨105, 1, .cells [.bool b, .roi .u32 b_1]⟩, ⟨105, 1, .cells [.bool r3, .roi .u32 r4]⟩])
  | _ => false
abbrev F_q49 (S_q49 : TS_q49) : Fs := mkFs shF_q49 (sp_q49 S_q49)

def shF_q24 : FnSh := ⟨[.agg [.ptr 0 0, .int .i64], .agg [.ptr 1 0, .int .i64]], [some (105, 1, .cells [.bool, .roi .u32]), some (105, 1, .cells [.bool, .roi .u32])]⟩
def sp_q24 (S_q24 : TS_q24) : List Atom -> (V -> List Blk -> Bool) -> Bool := fun a_ c_ => match a_ with
  | [.int x, .int y, .bool b, .ints b_1, .bool b_2, .ints b_3] => S_q24 x y b b_1 b_2 b_3 (fun r0 => c_ (.int .i64 r0) [⟨105, 1, .cells [.bool b, .roi .u32 b_1]⟩, ⟨105, 1, .cells [.bool b_2, .roi .u32 b_3]⟩])
  | _ => false
abbrev F_q24 (S_q24 : TS_q24) : Fs := mkFs shF_q24 (sp_q24 S_q24)

def shF_q93 : FnSh := ⟨[.agg [.flt, .flt, .flt, .flt]], []⟩
def sp_q93 (S_q93 : TS_q93) : List Atom -> (V -> List Blk -> Bool) -> Bool := fun a_ c_ => match a_ with
  | [.fl q_0, .fl q_1, .fl q_2, .fl q_3] => S_q93 q_0 q_1 q_2 q_3 (fun r0 r1 r2 r3 r4 => c_ (.tup [.agg [.flt r0, .flt r1, .flt r2, .flt r3], .int .i64 r4]) [])
  | _ => false
abbrev F_q93 (S_q93 : TS_q93) : Fs := mkFs shF_q93 (sp_q93 S_q93)

def shF_q39 : FnSh := ⟨[.agg [.flt, .flt, .flt, .flt], .agg [.flt, .flt, .flt, .flt]], []⟩
def sp_q39 (S_q39 : TS_q39) : List Atom -> (V -> List Blk -> Bool) -> Bool := fun a_ c_ => match a_ with
  | [.fl a_0, .fl a_1, .fl a_2, .fl a_3, .fl b_0, .fl b_1, .fl b_2, .fl b_3] => S_q39 a_0 a_1 a_2 a_3 b_0 b_1 b_2 b_3 (fun r0 => c_ (.bool r0) [])
  | _ => false
abbrev F_q39 (S_q39 : TS_q39) : Fs := mkFs shF_q39 (sp_q39 S_q39)

def shF_q48 : FnSh := ⟨[.agg [.int .i64, .int .i64, .int .i64, .int .i64], .agg [.int .i64, .int .i64, .int .i64, .int .i64], .agg [.int .i64, .int .i64, .int .i64, .int .i64]], []⟩
end Go.Proofs.YtccocdgimamdhaaGreatDoor
