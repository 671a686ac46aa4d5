/-
  THE MEANINGS, as specifications (written by program).
  Conditions: none.
-/
import Derived.Test.YtnfgnjciliapaaaGreatDoorGp
import Derived.Test.YtnfgnjciliapaaaGreatDoorMachZj
import Derived.Test.YtnfgnjciliapaaaGreatDoorProg
namespace Go.Proofs.YtnfgnjciliapaaaGreatDoor
open Go Go.Mach Go.Proofs
set_option linter.unusedVariables false
set_option maxRecDepth 50000

noncomputable abbrev Pg : Program := Tryz.prog
def sqs : Nat → List Sh → List Sh
  | 0, t => t
  | n + 1, t => .any :: sqs n t
def isref : Nat -> Bool := fun g => g == 147 || g == 99 || g == 167 || g == 139 || g == 1000166 || g == 1000145 || g == 1000143 || g == 1000056

def shFQ128 : FnSh := ⟨[.fb], []⟩
def spQ128 (SQ128 : TSQ128) : List Atom -> (V -> List Blk -> Bool) -> Bool := fun a_ c_ => match a_ with
  | [.nat a0] => SQ128 a0 (fun r0 => c_ (.int .u64 r0) [])
  | _ => false
abbrev FQ128 (SQ128 : TSQ128) : Fs := mkFs shFQ128 (spQ128 SQ128)

def shF_an_of : FnSh := ⟨[.litI .i64 0], []⟩
def sp_an_of (S_an_of : TS_an_of) : List Atom -> (V -> List Blk -> Bool) -> Bool := fun a_ c_ => match a_ with
  | [] => S_an_of (fun r0 r1 r2 => c_ (.agg [.int .u64 r0, .int .i64 r1, .int .i64 r2]) [])
  | _ => false
abbrev F_an_of (S_an_of : TS_an_of) : Fs := mkFs shF_an_of (sp_an_of S_an_of)

def shFQ129 : FnSh := ⟨[.agg [.int .u64, .int .i64, .int .i64]], []⟩
def spQ129 (SQ129 : TSQ129) : List Atom -> (V -> List Blk -> Bool) -> Bool := fun a_ c_ => match a_ with
  | [.int f_0, .int f_1, .int f_2] => SQ129 f_0 f_1 f_2 (fun r0 => c_ (.int .u64 r0) [])
  | _ => false
abbrev FQ129 (SQ129 : TSQ129) : Fs := mkFs shFQ129 (spQ129 SQ129)

def shFQ78 : FnSh := ⟨[.agg [.int .u64, .int .i64, .int .i64]], []⟩
def spQ78 (SQ78 : TSQ78) : List Atom -> (V -> List Blk -> Bool) -> Bool := fun a_ c_ => match a_ with
  | [.int f_0, .int f_1, .int f_2] => SQ78 f_0 f_1 f_2 (fun r0 => c_ (.int .u64 r0) [])
  | _ => false
abbrev FQ78 (SQ78 : TSQ78) : Fs := mkFs shFQ78 (spQ78 SQ78)

def shFQ76 : FnSh := ⟨[.int .u64, .agg [.int .u64, .int .i64, .int .i64]], []⟩
def spQ76 (SQ76 : TSQ76) : List Atom -> (V -> List Blk -> Bool) -> Bool := fun a_ c_ => match a_ with
  | [.int b, .int f_0, .int f_1, .int f_2] => SQ76 b f_0 f_1 f_2 (fun r0 => c_ (.bool r0) [])
  | _ => false
abbrev FQ76 (SQ76 : TSQ76) : Fs := mkFs shFQ76 (spQ76 SQ76)

def shFQ63 : FnSh := ⟨[.agg [.int .u64, .int .i64, .int .i64]], []⟩
def spQ63 (SQ63 : TSQ63) : List Atom -> (V -> List Blk -> Bool) -> Bool := fun a_ c_ => match a_ with
  | [.int f_0, .int f_1, .int f_2] => SQ63 f_0 f_1 f_2 (fun r0 => c_ (.int .u64 r0) [])
  | _ => false
abbrev FQ63 (SQ63 : TSQ63) : Fs := mkFs shFQ63 (spQ63 SQ63)

def shFQ143 : FnSh := ⟨[.agg [.int .u64, .int .i64, .int .i64]], []⟩
def spQ143 (SQ143 : TSQ143) : List Atom -> (V -> List Blk -> Bool) -> Bool := fun a_ c_ => match a_ with
  | [.int f_0, .int f_1, .int f_2] => SQ143 f_0 f_1 f_2 (fun r0 => c_ (.int .u64 r0) [])
  | _ => false
abbrev FQ143 (SQ143 : TSQ143) : Fs := mkFs shFQ143 (spQ143 SQ143)

def shFQ66 : FnSh := ⟨[.int .u64, .agg [.int .u64, .int .i64, .int .i64]], []⟩
def spQ66 (SQ66 : TSQ66) : List Atom -> (V -> List Blk -> Bool) -> Bool := fun a_ c_ => match a_ with
  | [.int b, .int f_0, .int f_1, .int f_2] => SQ66 b f_0 f_1 f_2 (fun r0 => c_ (.int .u64 r0) [])
  | _ => false
abbrev FQ66 (SQ66 : TSQ66) : Fs := mkFs shFQ66 (spQ66 SQ66)

def shFQ25 : FnSh := ⟨[.int .u64, .agg [.int .u64, .int .i64, .int .i64]], []⟩
def spQ25 (SQ25 : TSQ25) : List Atom -> (V -> List Blk -> Bool) -> Bool := fun a_ c_ => match a_ with
  | [.int b, .int f_0, .int f_1, .int f_2] => SQ25 b f_0 f_1 f_2 (fun r0 r1 r2 => c_ (.tup [.bool r0, .int .i64 r1, .int .u64 r2]) [])
  | _ => false
abbrev FQ25 (SQ25 : TSQ25) : Fs := mkFs shFQ25 (spQ25 SQ25)

def shFQ24 : FnSh := ⟨[.int .u64, .agg [.int .u64, .int .i64, .int .i64]], []⟩
def spQ24 (SQ24 : TSQ24) : List Atom -> (V -> List Blk -> Bool) -> Bool := fun a_ c_ => match a_ with
  | [.int b, .int f_0, .int f_1, .int f_2] => SQ24 b f_0 f_1 f_2 (fun r0 => c_ (.int .i64 r0) [])
  | _ => false
abbrev FQ24 (SQ24 : TSQ24) : Fs := mkFs shFQ24 (spQ24 SQ24)

def shFQ136 : FnSh := ⟨[.fb], []⟩
def spQ136 (SQ136 : TSQ136) : List Atom -> (V -> List Blk -> Bool) -> Bool := fun a_ c_ => match a_ with
  | [.nat x] => SQ136 x (fun r0 => c_ (.int .i64 r0) [])
  | _ => false
abbrev FQ136 (SQ136 : TSQ136) : Fs := mkFs shFQ136 (spQ136 SQ136)

def shFQ79 : FnSh := ⟨[.int .u64], []⟩
def spQ79 (SQ79 : TSQ79) : List Atom -> (V -> List Blk -> Bool) -> Bool := fun a_ c_ => match a_ with
  | [.int a0] => SQ79 a0 (fun r0 => c_ (.flt r0) [])
  | _ => false
abbrev FQ79 (SQ79 : TSQ79) : Fs := mkFs shFQ79 (spQ79 SQ79)

def shFQ149 : FnSh := ⟨[.fb], []⟩
def spQ149 (SQ149 : TSQ149) : List Atom -> (V -> List Blk -> Bool) -> Bool := fun a_ c_ => match a_ with
  | [.nat x] => SQ149 x (fun r0 => c_ (.flt r0) [])
  | _ => false
abbrev FQ149 (SQ149 : TSQ149) : Fs := mkFs shFQ149 (spQ149 SQ149)

def shFQ29 : FnSh := ⟨[.rof], []⟩
def spQ29 (SQ29 : TSQ29) : List Atom -> (V -> List Blk -> Bool) -> Bool := fun a_ c_ => match a_ with
  | [.fls l] => SQ29 l (fun r0 => c_ (.bool r0) [])
  | _ => false
abbrev FQ29 (SQ29 : TSQ29) : Fs := mkFs shFQ29 (spQ29 SQ29)

def shFQ7 : FnSh := ⟨[.ro 4 [.flt, .flt, .flt, .flt]], []⟩
def spQ7 (SQ7 : TSQ7) : List Atom -> (V -> List Blk -> Bool) -> Bool := fun a_ c_ => match a_ with
  | [.fl qs_0, .fl qs_1, .fl qs_2, .fl qs_3] => SQ7 qs_0 qs_1 qs_2 qs_3 (fun r0 => c_ (.bool r0) [])
  | _ => false
abbrev FQ7 (SQ7 : TSQ7) : Fs := mkFs shFQ7 (spQ7 SQ7)

def shFQ53 : FnSh := ⟨[.agg [.flt, .flt, .flt, .flt]], []⟩
def spQ53 (SQ53 : TSQ53) : List Atom -> (V -> List Blk -> Bool) -> Bool := fun a_ c_ => match a_ with
  | [.fl q_0, .fl q_1, .fl q_2, .fl q_3] => SQ53 q_0 q_1 q_2 q_3 (c_ (.agg [.flt q_0, .flt q_1, .flt q_2, .flt q_3]) [])
  | _ => false
abbrev FQ53 (SQ53 : TSQ53) : Fs := mkFs shFQ53 (spQ53 SQ53)

def shF_m_Abs : FnSh := ⟨[.flt], []⟩
def sp_m_Abs (S_m_Abs : TS_m_Abs) : List Atom -> (V -> List Blk -> Bool) -> Bool := fun a_ c_ => match a_ with
  | [.fl x] => S_m_Abs x (fun r0 => c_ (.flt r0) [])
  | _ => false
abbrev F_m_Abs (S_m_Abs : TS_m_Abs) : Fs := mkFs shF_m_Abs (sp_m_Abs S_m_Abs)

def shFQ108 : FnSh := ⟨[.flt, .int .i64], []⟩
def spQ108 (SQ108 : TSQ108) : List Atom -> (V -> List Blk -> Bool) -> Bool := fun a_ c_ => match a_ with
  | [.fl f, .int sign] => SQ108 f sign (fun r0 => c_ (.bool r0) [])
  | _ => false
abbrev FQ108 (SQ108 : TSQ108) : Fs := mkFs shFQ108 (spQ108 SQ108)

def shFQ114 : FnSh := ⟨[.flt], []⟩
def spQ114 (SQ114 : TSQ114) : List Atom -> (V -> List Blk -> Bool) -> Bool := fun a_ c_ => match a_ with
  | [.fl f] => SQ114 f (fun r0 => c_ (.bool r0) [])
  | _ => false
abbrev FQ114 (SQ114 : TSQ114) : Fs := mkFs shFQ114 (spQ114 SQ114)

def shFQ59 : FnSh := ⟨[.flt], []⟩
def spQ59 (SQ59 : TSQ59) : List Atom -> (V -> List Blk -> Bool) -> Bool := fun a_ c_ => match a_ with
  | [.fl x] => SQ59 x (fun r0 r1 => c_ (.tup [.flt r0, .int .i64 r1]) [])
  | _ => false
abbrev FQ59 (SQ59 : TSQ59) : Fs := mkFs shFQ59 (spQ59 SQ59)

def shFQ102 : FnSh := ⟨[.flt], []⟩
def spQ102 (SQ102 : TSQ102) : List Atom -> (V -> List Blk -> Bool) -> Bool := fun a_ c_ => match a_ with
  | [.fl a0] => SQ102 a0 (fun r0 => c_ (.int .u64 r0) [])
  | _ => false
abbrev FQ102 (SQ102 : TSQ102) : Fs := mkFs shFQ102 (spQ102 SQ102)

def shFQ145 : FnSh := ⟨[.flt], []⟩
def spQ145 (SQ145 : TSQ145) : List Atom -> (V -> List Blk -> Bool) -> Bool := fun a_ c_ => match a_ with
  | [.fl f] => SQ145 f (fun r0 r1 => c_ (.tup [.flt r0, .int .i64 r1]) [])
  | _ => false
abbrev FQ145 (SQ145 : TSQ145) : Fs := mkFs shFQ145 (spQ145 SQ145)

def shFQ138 : FnSh := ⟨[.flt], []⟩
def spQ138 (SQ138 : TSQ138) : List Atom -> (V -> List Blk -> Bool) -> Bool := fun a_ c_ => match a_ with
  | [.fl f] => SQ138 f (fun r0 r1 => c_ (.tup [.flt r0, .int .i64 r1]) [])
  | _ => false
abbrev FQ138 (SQ138 : TSQ138) : Fs := mkFs shFQ138 (spQ138 SQ138)

def shFQ87 : FnSh := ⟨[.flt, .flt], []⟩
def spQ87 (SQ87 : TSQ87) : List Atom -> (V -> List Blk -> Bool) -> Bool := fun a_ c_ => match a_ with
  | [.fl f, .fl sign] => SQ87 f sign (fun r0 => c_ (.flt r0) [])
  | _ => false
abbrev FQ87 (SQ87 : TSQ87) : Fs := mkFs shFQ87 (spQ87 SQ87)

def shF_m_Inf : FnSh := ⟨[.int .i64], []⟩
def sp_m_Inf (S_m_Inf : TS_m_Inf) : List Atom -> (V -> List Blk -> Bool) -> Bool := fun a_ c_ => match a_ with
  | [.int sign] => S_m_Inf sign (fun r0 => c_ (.flt r0) [])
  | _ => false
abbrev F_m_Inf (S_m_Inf : TS_m_Inf) : Fs := mkFs shF_m_Inf (sp_m_Inf S_m_Inf)

def shFQ140 : FnSh := ⟨[.flt, .int .i64], []⟩
def spQ140 (SQ140 : TSQ140) : List Atom -> (V -> List Blk -> Bool) -> Bool := fun a_ c_ => match a_ with
  | [.fl frac, .int exp] => SQ140 frac exp (fun r0 => c_ (.flt r0) [])
  | _ => false
abbrev FQ140 (SQ140 : TSQ140) : Fs := mkFs shFQ140 (spQ140 SQ140)

def shFQ109 : FnSh := ⟨[.flt, .int .i64], []⟩
def spQ109 (SQ109 : TSQ109) : List Atom -> (V -> List Blk -> Bool) -> Bool := fun a_ c_ => match a_ with
  | [.fl frac, .int exp] => SQ109 frac exp (fun r0 => c_ (.flt r0) [])
  | _ => false
abbrev FQ109 (SQ109 : TSQ109) : Fs := mkFs shFQ109 (spQ109 SQ109)

def shFQ155 : FnSh := ⟨[.flt], []⟩
def spQ155 (SQ155 : TSQ155) : List Atom -> (V -> List Blk -> Bool) -> Bool := fun a_ c_ => match a_ with
  | [.fl a0] => SQ155 a0 (fun r0 => c_ (.flt r0) [])
  | _ => false
abbrev FQ155 (SQ155 : TSQ155) : Fs := mkFs shFQ155 (spQ155 SQ155)

def shFQ148 : FnSh := ⟨[.flt], []⟩
def spQ148 (SQ148 : TSQ148) : List Atom -> (V -> List Blk -> Bool) -> Bool := fun a_ c_ => match a_ with
  | [.fl x] => SQ148 x (fun r0 => c_ (.flt r0) [])
  | _ => false
abbrev FQ148 (SQ148 : TSQ148) : Fs := mkFs shFQ148 (spQ148 SQ148)

def shFQ124 : FnSh := ⟨[.agg [.flt, .flt, .flt, .flt]], []⟩
def spQ124 (SQ124 : TSQ124) : List Atom -> (V -> List Blk -> Bool) -> Bool := fun a_ c_ => match a_ with
  | [.fl l_0, .fl l_1, .fl l_2, .fl l_3] => SQ124 l_0 l_1 l_2 l_3 (c_ (.agg [.flt l_0, .flt l_1, .flt l_2, .flt l_3]) [])
  | _ => false
abbrev FQ124 (SQ124 : TSQ124) : Fs := mkFs shFQ124 (spQ124 SQ124)

def shFQ85 : FnSh := ⟨[.agg [.flt, .flt, .flt, .flt]], []⟩
def spQ85 (SQ85 : TSQ85) : List Atom -> (V -> List Blk -> Bool) -> Bool := fun a_ c_ => match a_ with
  | [.fl q_0, .fl q_1, .fl q_2, .fl q_3] => SQ85 q_0 q_1 q_2 q_3 (fun r0 r1 r2 r3 r4 => c_ (.tup [.agg [.flt r0, .flt r1, .flt r2, .flt r3], .int .i64 r4]) [])
  | _ => false
abbrev FQ85 (SQ85 : TSQ85) : Fs := mkFs shFQ85 (spQ85 SQ85)

def shFQ115 : FnSh := ⟨[.agg [.flt, .flt, .flt], .agg [.flt, .flt, .flt]], []⟩
def spQ115 (SQ115 : TSQ115) : List Atom -> (V -> List Blk -> Bool) -> Bool := fun a_ c_ => match a_ with
  | [.fl a_0, .fl a_1, .fl a_2, .fl b_0, .fl b_1, .fl b_2] => SQ115 a_0 a_1 a_2 b_0 b_1 b_2 (fun r0 r1 r2 => c_ (.agg [.flt r0, .flt r1, .flt r2]) [])
  | _ => false
abbrev FQ115 (SQ115 : TSQ115) : Fs := mkFs shFQ115 (spQ115 SQ115)

def shFQ133 : FnSh := ⟨[.agg [.flt, .flt, .flt]], []⟩
def spQ133 (SQ133 : TSQ133) : List Atom -> (V -> List Blk -> Bool) -> Bool := fun a_ c_ => match a_ with
  | [.fl v_0, .fl v_1, .fl v_2] => SQ133 v_0 v_1 v_2 (fun r0 r1 r2 r3 => c_ (.tup [.agg [.flt r0, .flt r1, .flt r2], .int .i64 r3]) [])
  | _ => false
abbrev FQ133 (SQ133 : TSQ133) : Fs := mkFs shFQ133 (spQ133 SQ133)

def shFQ77 : FnSh := ⟨[.agg [.flt, .flt, .flt, .flt], .agg [.flt, .flt, .flt]], []⟩
def spQ77 (SQ77 : TSQ77) : List Atom -> (V -> List Blk -> Bool) -> Bool := fun a_ c_ => match a_ with
  | [.fl q_0, .fl q_1, .fl q_2, .fl q_3, .fl v_0, .fl v_1, .fl v_2] => SQ77 q_0 q_1 q_2 q_3 v_0 v_1 v_2 (fun r0 r1 r2 r3 => c_ (.tup [.agg [.flt r0, .flt r1, .flt r2], .int .i64 r3]) [])
  | _ => false
abbrev FQ77 (SQ77 : TSQ77) : Fs := mkFs shFQ77 (spQ77 SQ77)

def shFQ90 : FnSh := ⟨[.ro 4 [.flt, .flt, .flt, .flt, .flt, .flt, .flt, .flt]], []⟩
def spQ90 (SQ90 : TSQ90) : List Atom -> (V -> List Blk -> Bool) -> Bool := fun a_ c_ => match a_ with
  | [.fl qs_0, .fl qs_1, .fl qs_2, .fl qs_3, .fl qs_4, .fl qs_5, .fl qs_6, .fl qs_7] => SQ90 qs_0 qs_1 qs_2 qs_3 qs_4 qs_5 qs_6 qs_7 (fun r0 => c_ (.bool r0) [])
  | _ => false
abbrev FQ90 (SQ90 : TSQ90) : Fs := mkFs shFQ90 (spQ90 SQ90)

def shFQ137 : FnSh := ⟨[.agg [.flt, .flt, .flt, .flt], .agg [.flt, .flt, .flt, .flt]], []⟩
def spQ137 (SQ137 : TSQ137) : List Atom -> (V -> List Blk -> Bool) -> Bool := fun a_ c_ => match a_ with
  | [.fl a_0, .fl a_1, .fl a_2, .fl a_3, .fl b_0, .fl b_1, .fl b_2, .fl b_3] => SQ137 a_0 a_1 a_2 a_3 b_0 b_1 b_2 b_3 (fun r0 r1 r2 r3 => c_ (.agg [.flt r0, .flt r1, .flt r2, .flt r3]) [])
  | _ => false
abbrev FQ137 (SQ137 : TSQ137) : Fs := mkFs shFQ137 (spQ137 SQ137)

def shFQ125 : FnSh := ⟨[.agg [.flt, .flt, .flt, .flt]], []⟩
def spQ125 (SQ125 : TSQ125) : List Atom -> (V -> List Blk -> Bool) -> Bool := fun a_ c_ => match a_ with
  | [.fl q_0, .fl q_1, .fl q_2, .fl q_3] => SQ125 q_0 q_1 q_2 q_3 (fun r0 r1 r2 r3 r4 => c_ (.tup [.agg [.flt r0, .flt r1, .flt r2, .flt r3], .int .i64 r4]) [])
  | _ => false
abbrev FQ125 (SQ125 : TSQ125) : Fs := mkFs shFQ125 (spQ125 SQ125)

def shFQ110 : FnSh := ⟨[.agg [.flt, .flt, .flt, .flt], .agg [.flt, .flt, .flt, .flt]], []⟩
def spQ110 (SQ110 : TSQ110) : List Atom -> (V -> List Blk -> Bool) -> Bool := fun a_ c_ => match a_ with
  | [.fl a_0, .fl a_1, .fl a_2, .fl a_3, .fl b_0, .fl b_1, .fl b_2, .fl b_3] => SQ110 a_0 a_1 a_2 a_3 b_0 b_1 b_2 b_3 (fun r0 r1 r2 r3 r4 => c_ (.tup [.agg [.flt r0, .flt r1, .flt r2, .flt r3], .int .i64 r4]) [])
  | _ => false
abbrev FQ110 (SQ110 : TSQ110) : Fs := mkFs shFQ110 (spQ110 SQ110)

def shFQ122 : FnSh := ⟨[.flt], []⟩
def spQ122 (SQ122 : TSQ122) : List Atom -> (V -> List Blk -> Bool) -> Bool := fun a_ c_ => match a_ with
  | [.fl x] => SQ122 x (fun r0 => c_ (.int .i64 r0) [])
  | _ => false
abbrev FQ122 (SQ122 : TSQ122) : Fs := mkFs shFQ122 (spQ122 SQ122)

def shFQ92 : FnSh := ⟨[.rof], []⟩
def spQ92 (SQ92 : TSQ92) : List Atom -> (V -> List Blk -> Bool) -> Bool := fun a_ c_ => match a_ with
  | [.fls l] => SQ92 l (fun r0 => c_ (.bool r0) [])
  | _ => false
abbrev FQ92 (SQ92 : TSQ92) : Fs := mkFs shFQ92 (spQ92 SQ92)

def shFQ6 : FnSh := ⟨[.int .u64], []⟩
def spQ6 (SQ6 : TSQ6) : List Atom -> (V -> List Blk -> Bool) -> Bool := fun a_ c_ => match a_ with
  | [.int x] => SQ6 x (fun r0 => c_ (.int .i64 r0) [])
  | _ => false
abbrev FQ6 (SQ6 : TSQ6) : Fs := mkFs shFQ6 (spQ6 SQ6)

def shFQ60 : FnSh := ⟨[.int .u64, .agg [.int .u64, .int .i64, .int .i64]], []⟩
def spQ60 (SQ60 : TSQ60) : List Atom -> (V -> List Blk -> Bool) -> Bool := fun a_ c_ => match a_ with
  | [.int b, .int f_0, .int f_1, .int f_2] => SQ60 b f_0 f_1 f_2 (fun r0 r1 r2 r3 => c_ (.tup [.agg [.bool r0, .int .u64 r1, .int .i64 r2], .int .i64 r3]) [])
  | _ => false
abbrev FQ60 (SQ60 : TSQ60) : Fs := mkFs shFQ60 (spQ60 SQ60)

def shFQ134 : FnSh := ⟨[.flt], []⟩
def spQ134 (SQ134 : TSQ134) : List Atom -> (V -> List Blk -> Bool) -> Bool := fun a_ c_ => match a_ with
  | [.fl x] => SQ134 x (fun r0 r1 r2 r3 => c_ (.tup [.agg [.bool r0, .int .u64 r1, .int .i64 r2], .int .i64 r3]) [])
  | _ => false
abbrev FQ134 (SQ134 : TSQ134) : Fs := mkFs shFQ134 (spQ134 SQ134)

def shFQ1 : FnSh := ⟨[.slw 0], [some (22, 1, .ints .u64)]⟩
def spQ1 (SQ1 : TSQ1) : List Atom -> (V -> List Blk -> Bool) -> Bool := fun a_ c_ => match a_ with
  | [.ints b] => SQ1 b (fun r0 r1 => c_ (.sl 0 r0 r1) [⟨22, 1, .ints .u64 b⟩])
  | _ => false
abbrev FQ1 (SQ1 : TSQ1) : Fs := mkFs shFQ1 (spQ1 SQ1)

def shFQ112 : FnSh := ⟨[.int .u64], []⟩
def spQ112 (SQ112 : TSQ112) : List Atom -> (V -> List Blk -> Bool) -> Bool := fun a_ c_ => match a_ with
  | [.int n] => SQ112 n (fun r0 => c_ (.roi .u64 r0) [])
  | _ => false
abbrev FQ112 (SQ112 : TSQ112) : Fs := mkFs shFQ112 (spQ112 SQ112)

def shFQ0 : FnSh := ⟨[.ptr 0 0, .bool, .roi .u64], [some (126, 1, .cells [.bool, .nil])]⟩
def spQ0 (SQ0 : TSQ0) : List Atom -> (V -> List Blk -> Bool) -> Bool := fun a_ c_ => match a_ with
  | [.bool neg, .ints abs, .bool b] => SQ0 neg abs b (fun r0 => c_ (.ptr 0 0) [⟨126, 1, .cells [.bool r0, .roi .u64 abs]⟩])
  | _ => false
abbrev FQ0 (SQ0 : TSQ0) : Fs := mkFs shFQ0 (spQ0 SQ0)

def shFQ48 : FnSh := ⟨[.ptr 0 0, .int .u64], [some (126, 1, .cells [.bool, .nil])]⟩
def spQ48 (SQ48 : TSQ48) : List Atom -> (V -> List Blk -> Bool) -> Bool := fun a_ c_ => match a_ with
  | [.int n, .bool b] => SQ48 n b (fun r0 r1 => c_ (.ptr 0 0) [⟨126, 1, .cells [.bool r0, .roi .u64 r1]⟩])
  | _ => false
abbrev FQ48 (SQ48 : TSQ48) : Fs := mkFs shFQ48 (spQ48 SQ48)

def shFQ65 : FnSh := ⟨[.roi .u64], []⟩
def spQ65 (SQ65 : TSQ65) : List Atom -> (V -> List Blk -> Bool) -> Bool := fun a_ c_ => match a_ with
  | [.ints x] => SQ65 x (fun r0 => c_ (.roi .u64 r0) [])
  | _ => false
abbrev FQ65 (SQ65 : TSQ65) : Fs := mkFs shFQ65 (spQ65 SQ65)

def shFQ28 : FnSh := ⟨[.ptr 0 0, .bool, .roi .u64], [some (126, 1, .cells [.bool, .roi .u64])]⟩
def spQ28 (SQ28 : TSQ28) : List Atom -> (V -> List Blk -> Bool) -> Bool := fun a_ c_ => match a_ with
  | [.bool neg, .ints abs, .bool b, .ints b_1] => SQ28 neg abs b b_1 (fun r0 => c_ (.ptr 0 0) [⟨126, 1, .cells [.bool r0, .roi .u64 abs]⟩])
  | _ => false
abbrev FQ28 (SQ28 : TSQ28) : Fs := mkFs shFQ28 (spQ28 SQ28)

def shFQ22 : FnSh := ⟨[.ptr 0 0, .ptr 0 0], [some (126, 1, .cells [.bool, .roi .u64])]⟩
def spQ22 (SQ22 : TSQ22) : List Atom -> (V -> List Blk -> Bool) -> Bool := fun a_ c_ => match a_ with
  | [.bool b, .ints b_1] => SQ22 b b_1 (fun r0 r1 => c_ (.ptr 0 0) [⟨126, 1, .cells [.bool r0, .roi .u64 r1]⟩])
  | _ => false
abbrev FQ22 (SQ22 : TSQ22) : Fs := mkFs shFQ22 (spQ22 SQ22)

def shFQ127 : FnSh := ⟨[.flt], []⟩
def spQ127 (SQ127 : TSQ127) : List Atom -> (V -> List Blk -> Bool) -> Bool := fun a_ c_ => match a_ with
  | [.fl x] => SQ127 x (fun r0 r1 r2 => c_ (.agg [.ptr 0 0, .int .i64 r0]) [⟨126, 1, .cells [.bool r1, .roi .u64 r2]⟩])
  | _ => false
abbrev FQ127 (SQ127 : TSQ127) : Fs := mkFs shFQ127 (spQ127 SQ127)

def shFQ93 : FnSh := ⟨[.int .u64, .int .u64], []⟩
def spQ93 (SQ93 : TSQ93) : List Atom -> (V -> List Blk -> Bool) -> Bool := fun a_ c_ => match a_ with
  | [.int x, .int y] => SQ93 x y (fun r0 r1 => c_ (.tup [.int .u64 r0, .int .u64 r1]) [])
  | _ => false
abbrev FQ93 (SQ93 : TSQ93) : Fs := mkFs shFQ93 (spQ93 SQ93)

def shFQ61 : FnSh := ⟨[.int .u64, .int .u64, .int .u64], []⟩
def spQ61 (SQ61 : TSQ61) : List Atom -> (V -> List Blk -> Bool) -> Bool := fun a_ c_ => match a_ with
  | [.int a0, .int a1, .int a2] => SQ61 a0 a1 a2 (fun r0 r1 => c_ (.tup [.int .u64 r0, .int .u64 r1]) [])
  | _ => false
abbrev FQ61 (SQ61 : TSQ61) : Fs := mkFs shFQ61 (spQ61 SQ61)

def shFQ88 : FnSh := ⟨[.int .u64, .int .u64, .int .u64, .int .u64], []⟩
def spQ88 (SQ88 : TSQ88) : List Atom -> (V -> List Blk -> Bool) -> Bool := fun a_ c_ => match a_ with
  | [.int a, .int b, .int c, .int d] => SQ88 a b c d (fun r0 r1 => c_ (.tup [.int .u64 r0, .int .u64 r1]) [])
  | _ => false
abbrev FQ88 (SQ88 : TSQ88) : Fs := mkFs shFQ88 (spQ88 SQ88)

def shFQ119 : FnSh := ⟨[.roi .u64, .roi .u64], []⟩
def spQ119 (SQ119 : TSQ119) : List Atom -> (V -> List Blk -> Bool) -> Bool := fun a_ c_ => match a_ with
  | [.ints x, .ints y] => SQ119 x y (fun r0 => c_ (.roi .u64 r0) [])
  | _ => false
abbrev FQ119 (SQ119 : TSQ119) : Fs := mkFs shFQ119 (spQ119 SQ119)

def shFQ49 : FnSh := ⟨[.ptr 0 0, .ptr 1 0, .ptr 2 0], [some (126, 1, .cells [.bool, .nil]), some (126, 1, .cells [.bool, .roi .u64]), some (126, 1, .cells [.bool, .roi .u64])]⟩
def spQ49 (SQ49 : TSQ49) : List Atom -> (V -> List Blk -> Bool) -> Bool := fun a_ c_ => match a_ with
  | [.bool b, .bool b_1, .ints b_2, .bool b_3, .ints b_4] => SQ49 b b_1 b_2 b_3 b_4 (fun r0 r1 => c_ (.ptr 0 0) [⟨126, 1, .cells [.bool r0, .roi .u64 r1]⟩, ⟨126, 1, .cells [.bool b_1, .roi .u64 b_2]⟩, ⟨126, 1, .cells [.bool b_3, .roi .u64 b_4]⟩])
  | _ => false
abbrev FQ49 (SQ49 : TSQ49) : Fs := mkFs shFQ49 (spQ49 SQ49)

def shFQ13 : FnSh := ⟨[.agg [.ptr 0 0, .int .i64], .agg [.ptr 1 0, .int .i64]], [some (126, 1, .cells [.bool, .roi .u64]), some (126, 1, .cells [.bool, .roi .u64])]⟩
def spQ13 (SQ13 : TSQ13) : List Atom -> (V -> List Blk -> Bool) -> Bool := fun a_ c_ => match a_ with
  | [.int x, .int y, .bool b, .ints b_1, .bool b_2, .ints b_3] => SQ13 x y b b_1 b_2 b_3 (fun r0 r5 r6 => c_ (.agg [.ptr 2 0, .int .i64 r0]) [⟨126, 1, .cells [.bool b, .roi .u64 b_1]⟩, ⟨126, 1, .cells [.bool b_2, .roi .u64 b_3]⟩, ⟨126, 1, .cells [.bool r5, .roi .u64 r6]⟩])
  | _ => false
abbrev FQ13 (SQ13 : TSQ13) : Fs := mkFs shFQ13 (spQ13 SQ13)

def shFQ69 : FnSh := ⟨[.ptr 0 0], [some (126, 1, .cells [.bool, .nil])]⟩
def spQ69 (SQ69 : TSQ69) : List Atom -> (V -> List Blk -> Bool) -> Bool := fun a_ c_ => match a_ with
  | [.bool b] => SQ69 b (fun r0 r2 => c_ (.int .i64 r0) [⟨126, 1, .cells [.bool b, .roi .u64 r2]⟩])
  | _ => false
abbrev FQ69 (SQ69 : TSQ69) : Fs := mkFs shFQ69 (spQ69 SQ69)

def shFQ4 : FnSh := ⟨[.ptr 0 0], [some (126, 1, .cells [.bool, .roi .u64])]⟩
def spQ4 (SQ4 : TSQ4) : List Atom -> (V -> List Blk -> Bool) -> Bool := fun a_ c_ => match a_ with
  | [.bool b, .ints b_1] => SQ4 b b_1 (fun r0 => c_ (.int .i64 r0) [⟨126, 1, .cells [.bool b, .roi .u64 b_1]⟩])
  | _ => false
abbrev FQ4 (SQ4 : TSQ4) : Fs := mkFs shFQ4 (spQ4 SQ4)

def shFQ89 : FnSh := ⟨[.roi .u64, .int .u64], []⟩
def spQ89 (SQ89 : TSQ89) : List Atom -> (V -> List Blk -> Bool) -> Bool := fun a_ c_ => match a_ with
  | [.ints x, .int n] => SQ89 x n (fun r0 => c_ (.roi .u64 r0) [])
  | _ => false
abbrev FQ89 (SQ89 : TSQ89) : Fs := mkFs shFQ89 (spQ89 SQ89)

def shFQ58 : FnSh := ⟨[.ptr 0 0, .ptr 1 0, .int .u64], [some (126, 1, .cells [.bool, .nil]), some (126, 1, .cells [.bool, .roi .u64])]⟩
def spQ58 (SQ58 : TSQ58) : List Atom -> (V -> List Blk -> Bool) -> Bool := fun a_ c_ => match a_ with
  | [.int n, .bool b, .bool b_1, .ints b_2] => SQ58 n b b_1 b_2 (fun r0 r1 => c_ (.ptr 0 0) [⟨126, 1, .cells [.bool r0, .roi .u64 r1]⟩, ⟨126, 1, .cells [.bool b_1, .roi .u64 b_2]⟩])
  | _ => false
abbrev FQ58 (SQ58 : TSQ58) : Fs := mkFs shFQ58 (spQ58 SQ58)

def shFQ30 : FnSh := ⟨[.agg [.ptr 0 0, .int .i64], .int .i64], [some (126, 1, .cells [.bool, .roi .u64])]⟩
def spQ30 (SQ30 : TSQ30) : List Atom -> (V -> List Blk -> Bool) -> Bool := fun a_ c_ => match a_ with
  | [.int x, .int e, .bool b, .ints b_1] => SQ30 x e b b_1 (fun r2 r3 => c_ (.ptr 1 0) [⟨126, 1, .cells [.bool b, .roi .u64 b_1]⟩, ⟨126, 1, .cells [.bool r2, .roi .u64 r3]⟩])
  | _ => false
abbrev FQ30 (SQ30 : TSQ30) : Fs := mkFs shFQ30 (spQ30 SQ30)

def shFQ14 : FnSh := ⟨[.roi .u64, .int .i64], []⟩
def spQ14 (SQ14 : TSQ14) : List Atom -> (V -> List Blk -> Bool) -> Bool := fun a_ c_ => match a_ with
  | [.ints x, .int i] => SQ14 x i (fun r0 => c_ (.int .u64 r0) [])
  | _ => false
abbrev FQ14 (SQ14 : TSQ14) : Fs := mkFs shFQ14 (spQ14 SQ14)

def shFQ126 : FnSh := ⟨[.roi .u64, .roi .u64], []⟩
def spQ126 (SQ126 : TSQ126) : List Atom -> (V -> List Blk -> Bool) -> Bool := fun a_ c_ => match a_ with
  | [.ints x, .ints y] => SQ126 x y (fun r0 => c_ (.roi .u64 r0) [])
  | _ => false
abbrev FQ126 (SQ126 : TSQ126) : Fs := mkFs shFQ126 (spQ126 SQ126)

def shFQ98 : FnSh := ⟨[.roi .u64, .roi .u64], []⟩
def spQ98 (SQ98 : TSQ98) : List Atom -> (V -> List Blk -> Bool) -> Bool := fun a_ c_ => match a_ with
  | [.ints x, .ints y] => SQ98 x y (fun r0 => c_ (.int .i64 r0) [])
  | _ => false
abbrev FQ98 (SQ98 : TSQ98) : Fs := mkFs shFQ98 (spQ98 SQ98)

def shFQ81 : FnSh := ⟨[.int .u64, .int .u64, .int .u64], []⟩
def spQ81 (SQ81 : TSQ81) : List Atom -> (V -> List Blk -> Bool) -> Bool := fun a_ c_ => match a_ with
  | [.int a0, .int a1, .int a2] => SQ81 a0 a1 a2 (fun r0 r1 => c_ (.tup [.int .u64 r0, .int .u64 r1]) [])
  | _ => false
abbrev FQ81 (SQ81 : TSQ81) : Fs := mkFs shFQ81 (spQ81 SQ81)

def shFQ130 : FnSh := ⟨[.roi .u64, .roi .u64], []⟩
def spQ130 (SQ130 : TSQ130) : List Atom -> (V -> List Blk -> Bool) -> Bool := fun a_ c_ => match a_ with
  | [.ints x, .ints y] => SQ130 x y (fun r0 => c_ (.roi .u64 r0) [])
  | _ => false
abbrev FQ130 (SQ130 : TSQ130) : Fs := mkFs shFQ130 (spQ130 SQ130)

def shFQ56 : FnSh := ⟨[.ptr 0 0, .ptr 1 0, .bool, .roi .u64], [some (126, 1, .cells [.bool, .nil]), some (126, 1, .cells [.bool, .roi .u64])]⟩
def spQ56 (SQ56 : TSQ56) : List Atom -> (V -> List Blk -> Bool) -> Bool := fun a_ c_ => match a_ with
  | [.bool neg, .ints y, .bool b, .bool b_1, .ints b_2] => SQ56 neg y b b_1 b_2 (fun r0 r1 => c_ (.ptr 0 0) [⟨126, 1, .cells [.bool r0, .roi .u64 r1]⟩, ⟨126, 1, .cells [.bool b_1, .roi .u64 b_2]⟩])
  | _ => false
abbrev FQ56 (SQ56 : TSQ56) : Fs := mkFs shFQ56 (spQ56 SQ56)

def shFQ23 : FnSh := ⟨[.ptr 0 0, .ptr 1 0, .ptr 2 0], [some (126, 1, .cells [.bool, .nil]), some (126, 1, .cells [.bool, .roi .u64]), some (126, 1, .cells [.bool, .roi .u64])]⟩
def spQ23 (SQ23 : TSQ23) : List Atom -> (V -> List Blk -> Bool) -> Bool := fun a_ c_ => match a_ with
  | [.bool b, .bool b_1, .ints b_2, .bool b_3, .ints b_4] => SQ23 b b_1 b_2 b_3 b_4 (fun r0 r1 => c_ (.ptr 0 0) [⟨126, 1, .cells [.bool r0, .roi .u64 r1]⟩, ⟨126, 1, .cells [.bool b_1, .roi .u64 b_2]⟩, ⟨126, 1, .cells [.bool b_3, .roi .u64 b_4]⟩])
  | _ => false
abbrev FQ23 (SQ23 : TSQ23) : Fs := mkFs shFQ23 (spQ23 SQ23)

def shFQ15 : FnSh := ⟨[.agg [.ptr 0 0, .int .i64], .agg [.ptr 1 0, .int .i64]], [some (126, 1, .cells [.bool, .nil]), some (126, 1, .cells [.bool, .roi .u64])]⟩
def spQ15 (SQ15 : TSQ15) : List Atom -> (V -> List Blk -> Bool) -> Bool := fun a_ c_ => match a_ with
  | [.int x, .int y, .bool b, .bool b_1, .ints b_2] => SQ15 x y b b_1 b_2 (fun r2 => c_ (.agg [.ptr 1 0, .int .i64 y]) [⟨126, 1, .cells [.bool b, .roi .u64 r2]⟩, ⟨126, 1, .cells [.bool b_1, .roi .u64 b_2]⟩]) (fun r2 => c_ (.agg [.ptr 0 0, .int .i64 x]) [⟨126, 1, .cells [.bool b, .roi .u64 r2]⟩, ⟨126, 1, .cells [.bool b_1, .roi .u64 b_2]⟩]) (fun r0 r2 r5 r6 => c_ (.agg [.ptr 2 0, .int .i64 r0]) [⟨126, 1, .cells [.bool b, .roi .u64 r2]⟩, ⟨126, 1, .cells [.bool b_1, .roi .u64 b_2]⟩, ⟨126, 1, .cells [.bool r5, .roi .u64 r6]⟩])
  | _ => false
abbrev FQ15 (SQ15 : TSQ15) : Fs := mkFs shFQ15 (spQ15 SQ15)

def shFQ5 : FnSh := ⟨[.agg [.ptr 0 0, .int .i64], .agg [.ptr 1 0, .int .i64]], [some (126, 1, .cells [.bool, .roi .u64]), some (126, 1, .cells [.bool, .roi .u64])]⟩
def spQ5 (SQ5 : TSQ5) : List Atom -> (V -> List Blk -> Bool) -> Bool := fun a_ c_ => match a_ with
  | [.int x, .int y, .bool b, .ints b_1, .bool b_2, .ints b_3] => SQ5 x y b b_1 b_2 b_3 (c_ (.agg [.ptr 1 0, .int .i64 y]) [⟨126, 1, .cells [.bool b, .roi .u64 b_1]⟩, ⟨126, 1, .cells [.bool b_2, .roi .u64 b_3]⟩]) (c_ (.agg [.ptr 0 0, .int .i64 x]) [⟨126, 1, .cells [.bool b, .roi .u64 b_1]⟩, ⟨126, 1, .cells [.bool b_2, .roi .u64 b_3]⟩]) (fun r0 r5 r6 => c_ (.agg [.ptr 2 0, .int .i64 r0]) [⟨126, 1, .cells [.bool b, .roi .u64 b_1]⟩, ⟨126, 1, .cells [.bool b_2, .roi .u64 b_3]⟩, ⟨126, 1, .cells [.bool r5, .roi .u64 r6]⟩])
  | _ => false
abbrev FQ5 (SQ5 : TSQ5) : Fs := mkFs shFQ5 (spQ5 SQ5)

def shFQ32 : FnSh := ⟨[.ptr 0 0, .ptr 1 0], [some (126, 1, .cells [.bool, .nil]), some (126, 1, .cells [.bool, .roi .u64])]⟩
def spQ32 (SQ32 : TSQ32) : List Atom -> (V -> List Blk -> Bool) -> Bool := fun a_ c_ => match a_ with
  | [.bool b, .bool b_1, .ints b_2] => SQ32 b b_1 b_2 (fun r0 r1 => c_ (.ptr 0 0) [⟨126, 1, .cells [.bool r0, .roi .u64 r1]⟩, ⟨126, 1, .cells [.bool b_1, .roi .u64 b_2]⟩])
  | _ => false
abbrev FQ32 (SQ32 : TSQ32) : Fs := mkFs shFQ32 (spQ32 SQ32)

def shFQ50 : FnSh := ⟨[.ptr 0 0, .int .i64], [some (126, 1, .cells [.bool, .roi .u64])]⟩
def spQ50 (SQ50 : TSQ50) : List Atom -> (V -> List Blk -> Bool) -> Bool := fun a_ c_ => match a_ with
  | [.int i, .bool b, .ints b_1] => SQ50 i b b_1 (fun r0 => c_ (.int .u64 r0) [⟨126, 1, .cells [.bool b, .roi .u64 b_1]⟩])
  | _ => false
abbrev FQ50 (SQ50 : TSQ50) : Fs := mkFs shFQ50 (spQ50 SQ50)

def shFQ8 : FnSh := ⟨[.ptr 0 0], [some (126, 1, .cells [.bool, .roi .u64])]⟩
def spQ8 (SQ8 : TSQ8) : List Atom -> (V -> List Blk -> Bool) -> Bool := fun a_ c_ => match a_ with
  | [.bool b, .ints b_1] => SQ8 b b_1 (fun r0 => c_ (.int .u64 r0) [⟨126, 1, .cells [.bool b, .roi .u64 b_1]⟩])
  | _ => false
abbrev FQ8 (SQ8 : TSQ8) : Fs := mkFs shFQ8 (spQ8 SQ8)

def shFQ116 : FnSh := ⟨[.roi .u64, .int .u64], []⟩
def spQ116 (SQ116 : TSQ116) : List Atom -> (V -> List Blk -> Bool) -> Bool := fun a_ c_ => match a_ with
  | [.ints x, .int n] => SQ116 x n (fun r0 r1 => c_ (.tup [.roi .u64 r0, .bool r1]) [])
  | _ => false
abbrev FQ116 (SQ116 : TSQ116) : Fs := mkFs shFQ116 (spQ116 SQ116)

def shFQ11 : FnSh := ⟨[.ptr 0 0, .ptr 0 0, .int .u64], [some (126, 1, .cells [.bool, .roi .u64])]⟩
def spQ11 (SQ11 : TSQ11) : List Atom -> (V -> List Blk -> Bool) -> Bool := fun a_ c_ => match a_ with
  | [.int n, .bool b, .ints b_1] => SQ11 n b b_1 (fun r0 r1 => c_ (.ptr 0 0) [⟨126, 1, .cells [.bool r0, .roi .u64 r1]⟩])
  | _ => false
abbrev FQ11 (SQ11 : TSQ11) : Fs := mkFs shFQ11 (spQ11 SQ11)

def shFQ17 : FnSh := ⟨[.agg [.ptr 0 0, .int .i64]], [some (126, 1, .cells [.bool, .roi .u64])]⟩
def spQ17 (SQ17 : TSQ17) : List Atom -> (V -> List Blk -> Bool) -> Bool := fun a_ c_ => match a_ with
  | [.int x, .bool b, .ints b_1] => SQ17 x b b_1 (fun r0 r3 r4 => c_ (.agg [.ptr 1 0, .int .i64 r0]) [⟨126, 1, .cells [.bool b, .roi .u64 b_1]⟩, ⟨126, 1, .cells [.bool r3, .roi .u64 r4]⟩])
  | _ => false
abbrev FQ17 (SQ17 : TSQ17) : Fs := mkFs shFQ17 (spQ17 SQ17)

def shFQ80 : FnSh := ⟨[.int .u64], []⟩
def spQ80 (SQ80 : TSQ80) : List Atom -> (V -> List Blk -> Bool) -> Bool := fun a_ c_ => match a_ with
  | [.int x] => SQ80 x (fun r0 => c_ (.int .i64 r0) [])
  | _ => false
abbrev FQ80 (SQ80 : TSQ80) : Fs := mkFs shFQ80 (spQ80 SQ80)

def shFQ117 : FnSh := ⟨[.roi .u64], []⟩
def spQ117 (SQ117 : TSQ117) : List Atom -> (V -> List Blk -> Bool) -> Bool := fun a_ c_ => match a_ with
  | [.ints x] => SQ117 x (fun r0 => c_ (.int .i64 r0) [])
  | _ => false
abbrev FQ117 (SQ117 : TSQ117) : Fs := mkFs shFQ117 (spQ117 SQ117)

def shFQ34 : FnSh := ⟨[.ptr 0 0], [some (126, 1, .cells [.bool, .roi .u64])]⟩
def spQ34 (SQ34 : TSQ34) : List Atom -> (V -> List Blk -> Bool) -> Bool := fun a_ c_ => match a_ with
  | [.bool b, .ints b_1] => SQ34 b b_1 (fun r0 => c_ (.int .i64 r0) [⟨126, 1, .cells [.bool b, .roi .u64 b_1]⟩])
  | _ => false
abbrev FQ34 (SQ34 : TSQ34) : Fs := mkFs shFQ34 (spQ34 SQ34)

def shFQ54 : FnSh := ⟨[.ptr 0 0, .int .i64], [some (126, 1, .cells [.bool, .nil])]⟩
def spQ54 (SQ54 : TSQ54) : List Atom -> (V -> List Blk -> Bool) -> Bool := fun a_ c_ => match a_ with
  | [.int n, .bool b] => SQ54 n b (fun r0 r1 => c_ (.ptr 0 0) [⟨126, 1, .cells [.bool r0, .roi .u64 r1]⟩])
  | _ => false
abbrev FQ54 (SQ54 : TSQ54) : Fs := mkFs shFQ54 (spQ54 SQ54)

def shFQ55 : FnSh := ⟨[.int .i64], []⟩
def spQ55 (SQ55 : TSQ55) : List Atom -> (V -> List Blk -> Bool) -> Bool := fun a_ c_ => match a_ with
  | [.int n] => SQ55 n (fun r0 r1 => c_ (.ptr 0 0) [⟨126, 1, .cells [.bool r0, .roi .u64 r1]⟩])
  | _ => false
abbrev FQ55 (SQ55 : TSQ55) : Fs := mkFs shFQ55 (spQ55 SQ55)

def shFQ33 : FnSh := ⟨[.ptr 0 0, .ptr 1 0], [some (126, 1, .cells [.bool, .nil]), some (126, 1, .cells [.bool, .roi .u64])]⟩
def spQ33 (SQ33 : TSQ33) : List Atom -> (V -> List Blk -> Bool) -> Bool := fun a_ c_ => match a_ with
  | [.bool b, .bool b_1, .ints b_2] => SQ33 b b_1 b_2 (fun r0 r1 => c_ (.ptr 0 0) [⟨126, 1, .cells [.bool r0, .roi .u64 r1]⟩, ⟨126, 1, .cells [.bool b_1, .roi .u64 b_2]⟩])
  | _ => false
abbrev FQ33 (SQ33 : TSQ33) : Fs := mkFs shFQ33 (spQ33 SQ33)

def shFQ39 : FnSh := ⟨[.ptr 0 0, .bool, .sl 1], [some (126, 1, .cells [.bool, .nil]), some (22, 1, .ints .u64)]⟩
def spQ39 (SQ39 : TSQ39) : List Atom -> (V -> List Blk -> Bool) -> Bool := fun a_ c_ => match a_ with
  | [.bool neg, .nat abs_0, .nat abs_1, .bool b, .ints b_1] => SQ39 neg abs_0 abs_1 b b_1 (fun r0 => c_ (.ptr 0 0) [⟨126, 1, .cells [.bool r0, .sl 1 abs_0 abs_1]⟩, ⟨22, 1, .ints .u64 b_1⟩])
  | _ => false
abbrev FQ39 (SQ39 : TSQ39) : Fs := mkFs shFQ39 (spQ39 SQ39)

def shFQ19 : FnSh := ⟨[.ptr 0 0, .ptr 1 0, .ptr 2 0], [some (126, 1, .cells [.bool, .nil]), some (126, 1, .cells [.bool, .roi .u64]), some (126, 1, .cells [.bool, .roi .u64])]⟩
def spQ19 (SQ19 : TSQ19) : List Atom -> (V -> List Blk -> Bool) -> Bool := fun a_ c_ => match a_ with
  | [.bool b, .bool b_1, .ints b_2, .bool b_3, .ints b_4] => SQ19 b b_1 b_2 b_3 b_4 (fun r0 r1 => c_ (.ptr 0 0) [⟨126, 1, .cells [.bool r0, .roi .u64 r1]⟩, ⟨126, 1, .cells [.bool b_1, .roi .u64 b_2]⟩, ⟨126, 1, .cells [.bool b_3, .roi .u64 b_4]⟩])
  | _ => false
abbrev FQ19 (SQ19 : TSQ19) : Fs := mkFs shFQ19 (spQ19 SQ19)

def shFQ144 : FnSh := ⟨[.roi .u64], []⟩
def spQ144 (SQ144 : TSQ144) : List Atom -> (V -> List Blk -> Bool) -> Bool := fun a_ c_ => match a_ with
  | [.ints x] => SQ144 x (fun r0 => c_ (.int .u64 r0) [])
  | _ => false
abbrev FQ144 (SQ144 : TSQ144) : Fs := mkFs shFQ144 (spQ144 SQ144)

def shFQ35 : FnSh := ⟨[.ptr 0 0], [some (126, 1, .cells [.bool, .roi .u64])]⟩
def spQ35 (SQ35 : TSQ35) : List Atom -> (V -> List Blk -> Bool) -> Bool := fun a_ c_ => match a_ with
  | [.bool b, .ints b_1] => SQ35 b b_1 (fun r0 => c_ (.int .u64 r0) [⟨126, 1, .cells [.bool b, .roi .u64 b_1]⟩])
  | _ => false
abbrev FQ35 (SQ35 : TSQ35) : Fs := mkFs shFQ35 (spQ35 SQ35)

def shFQ9 : FnSh := ⟨[.agg [.ptr 0 0, .int .i64]], [some (126, 1, .cells [.bool, .roi .u64])]⟩
def spQ9 (SQ9 : TSQ9) : List Atom -> (V -> List Blk -> Bool) -> Bool := fun a_ c_ => match a_ with
  | [.int x, .bool b, .ints b_1] => SQ9 x b b_1 (fun r0 r1 r2 => c_ (.tup [.agg [.bool r0, .nil, .int .i64 r1], .int .i64 r2]) [⟨126, 1, .cells [.bool b, .roi .u64 b_1]⟩]) (fun r0 r1 r2 r5 => c_ (.tup [.agg [.bool r0, .slw 1, .int .i64 r1], .int .i64 r2]) [⟨126, 1, .cells [.bool b, .roi .u64 b_1]⟩, ⟨87, 1, .ints .u32 r5⟩])
  | _ => false
abbrev FQ9 (SQ9 : TSQ9) : Fs := mkFs shFQ9 (spQ9 SQ9)

def shFQ72 : FnSh := ⟨[.rof, .rof], []⟩
def spQ72 (SQ72 : TSQ72) : List Atom -> (V -> List Blk -> Bool) -> Bool := fun a_ c_ => match a_ with
  | [.fls a, .fls b] => SQ72 a b (fun r0 r1 r2 => c_ (.tup [.agg [.bool r0, .nil, .int .i64 r1], .int .i64 r2]) []) (fun r0 r1 r2 r3 => c_ (.tup [.agg [.bool r0, .slw 0, .int .i64 r1], .int .i64 r2]) [⟨87, 1, .ints .u32 r3⟩])
  | _ => false
abbrev FQ72 (SQ72 : TSQ72) : Fs := mkFs shFQ72 (spQ72 SQ72)

def shFQ111 : FnSh := ⟨[.agg [.bool, .roi .u32, .int .i64]], []⟩
def spQ111 (SQ111 : TSQ111) : List Atom -> (V -> List Blk -> Bool) -> Bool := fun a_ c_ => match a_ with
  | [.bool d_0, .ints d_1, .int d_2] => SQ111 d_0 d_1 d_2 (fun r0 => c_ (.bool r0) [])
  | _ => false
abbrev FQ111 (SQ111 : TSQ111) : Fs := mkFs shFQ111 (spQ111 SQ111)

def shFQ42 : FnSh := ⟨[.ptr 0 0, .ptr 0 0, .int .u64], [some (126, 1, .cells [.bool, .nil])]⟩
def spQ42 (SQ42 : TSQ42) : List Atom -> (V -> List Blk -> Bool) -> Bool := fun a_ c_ => match a_ with
  | [.int n, .bool b] => SQ42 n b (fun r0 r1 => c_ (.ptr 0 0) [⟨126, 1, .cells [.bool r0, .roi .u64 r1]⟩])
  | _ => false
abbrev FQ42 (SQ42 : TSQ42) : Fs := mkFs shFQ42 (spQ42 SQ42)

def shFQ40 : FnSh := ⟨[.ptr 0 0, .bool, .sl 1], [some (126, 1, .cells [.bool, .roi .u64]), some (22, 1, .ints .u64)]⟩
def spQ40 (SQ40 : TSQ40) : List Atom -> (V -> List Blk -> Bool) -> Bool := fun a_ c_ => match a_ with
  | [.bool neg, .nat abs_0, .nat abs_1, .bool b, .ints b_1, .ints b_2] => SQ40 neg abs_0 abs_1 b b_1 b_2 (fun r0 => c_ (.ptr 0 0) [⟨126, 1, .cells [.bool r0, .sl 1 abs_0 abs_1]⟩, ⟨22, 1, .ints .u64 b_2⟩])
  | _ => false
abbrev FQ40 (SQ40 : TSQ40) : Fs := mkFs shFQ40 (spQ40 SQ40)

def shFQ26 : FnSh := ⟨[.ptr 0 0, .ptr 0 0, .ptr 1 0], [some (126, 1, .cells [.bool, .roi .u64]), some (126, 1, .cells [.bool, .roi .u64])]⟩
def spQ26 (SQ26 : TSQ26) : List Atom -> (V -> List Blk -> Bool) -> Bool := fun a_ c_ => match a_ with
  | [.bool b, .ints b_1, .bool b_2, .ints b_3] => SQ26 b b_1 b_2 b_3 (fun r0 r1 => c_ (.ptr 0 0) [⟨126, 1, .cells [.bool r0, .roi .u64 r1]⟩, ⟨126, 1, .cells [.bool b_2, .roi .u64 b_3]⟩])
  | _ => false
abbrev FQ26 (SQ26 : TSQ26) : Fs := mkFs shFQ26 (spQ26 SQ26)

def shFQ43 : FnSh := ⟨[.ptr 0 0, .ptr 0 0, .int .u64], [some (126, 1, .cells [.bool, .roi .u64])]⟩
def spQ43 (SQ43 : TSQ43) : List Atom -> (V -> List Blk -> Bool) -> Bool := fun a_ c_ => match a_ with
  | [.int n, .bool b, .ints b_1] => SQ43 n b b_1 (fun r0 r1 => c_ (.ptr 0 0) [⟨126, 1, .cells [.bool r0, .roi .u64 r1]⟩])
  | _ => false
abbrev FQ43 (SQ43 : TSQ43) : Fs := mkFs shFQ43 (spQ43 SQ43)

def shFQ95 : FnSh := ⟨[.agg [.bool, .roi .u32, .int .i64]], []⟩
def spQ95 (SQ95 : TSQ95) : List Atom -> (V -> List Blk -> Bool) -> Bool := fun a_ c_ => match a_ with
  | [.bool d_0, .ints d_1, .int d_2] => SQ95 d_0 d_1 d_2 (fun r1 r2 => c_ (.agg [.ptr 0 0, .int .i64 d_2]) [⟨126, 1, .cells [.bool r1, .roi .u64 r2]⟩])
  | _ => false
abbrev FQ95 (SQ95 : TSQ95) : Fs := mkFs shFQ95 (spQ95 SQ95)

def shFQ38 : FnSh := ⟨[.ptr 0 0, .ptr 1 0], [some (126, 1, .cells [.bool, .nil]), some (126, 1, .cells [.bool, .roi .u64])]⟩
def spQ38 (SQ38 : TSQ38) : List Atom -> (V -> List Blk -> Bool) -> Bool := fun a_ c_ => match a_ with
  | [.bool b, .bool b_1, .ints b_2] => SQ38 b b_1 b_2 (fun r0 r1 => c_ (.ptr 0 0) [⟨126, 1, .cells [.bool r0, .roi .u64 r1]⟩, ⟨126, 1, .cells [.bool b_1, .roi .u64 b_2]⟩])
  | _ => false
abbrev FQ38 (SQ38 : TSQ38) : Fs := mkFs shFQ38 (spQ38 SQ38)

def shFQ62 : FnSh := ⟨[.agg [.ptr 0 0, .int .i64], .agg [.ptr 1 0, .int .i64]], [some (126, 1, .cells [.bool, .roi .u64]), some (126, 1, .cells [.bool, .roi .u64])]⟩
def spQ62 (SQ62 : TSQ62) : List Atom -> (V -> List Blk -> Bool) -> Bool := fun a_ c_ => match a_ with
  | [.int x, .int y, .bool b, .ints b_1, .bool b_2, .ints b_3] => SQ62 x y b b_1 b_2 b_3 (fun r0 r5 r6 => c_ (.agg [.ptr 2 0, .int .i64 r0]) [⟨126, 1, .cells [.bool b, .roi .u64 b_1]⟩, ⟨126, 1, .cells [.bool b_2, .roi .u64 b_3]⟩, ⟨126, 1, .cells [.bool r5, .roi .u64 r6]⟩]) (c_ (.agg [.ptr 0 0, .int .i64 x]) [⟨126, 1, .cells [.bool b, .roi .u64 b_1]⟩, ⟨126, 1, .cells [.bool b_2, .roi .u64 b_3]⟩])
  | _ => false
abbrev FQ62 (SQ62 : TSQ62) : Fs := mkFs shFQ62 (spQ62 SQ62)

def shFQ103 : FnSh := ⟨[.agg [.bool, .roi .u32, .int .i64], .agg [.bool, .roi .u32, .int .i64], .fn 90 []], []⟩
def spQ103 (SQ103 : TSQ103) : List Atom -> (V -> List Blk -> Bool) -> Bool := fun a_ c_ => match a_ with
  | [.bool a_0, .ints a_1, .int a_2, .bool b_0, .ints b_1, .int b_2] => SQ103 a_0 a_1 a_2 b_0 b_1 b_2 (fun r0 r1 r2 => c_ (.tup [.agg [.bool r0, .nil, .int .i64 r1], .int .i64 r2]) []) (fun r0 r1 r2 r3 => c_ (.tup [.agg [.bool r0, .slw 0, .int .i64 r1], .int .i64 r2]) [⟨87, 1, .ints .u32 r3⟩])
  | _ => false
abbrev FQ103 (SQ103 : TSQ103) : Fs := mkFs shFQ103 (spQ103 SQ103)

def shFQ73 : FnSh := ⟨[.agg [.bool, .roi .u32, .int .i64], .agg [.bool, .roi .u32, .int .i64]], []⟩
def spQ73 (SQ73 : TSQ73) : List Atom -> (V -> List Blk -> Bool) -> Bool := fun a_ c_ => match a_ with
  | [.bool a_0, .ints a_1, .int a_2, .bool b_0, .ints b_1, .int b_2] => SQ73 a_0 a_1 a_2 b_0 b_1 b_2 (fun r0 r1 r2 => c_ (.tup [.agg [.bool r0, .nil, .int .i64 r1], .int .i64 r2]) []) (fun r0 r1 r2 r3 => c_ (.tup [.agg [.bool r0, .slw 0, .int .i64 r1], .int .i64 r2]) [⟨87, 1, .ints .u32 r3⟩])
  | _ => false
abbrev FQ73 (SQ73 : TSQ73) : Fs := mkFs shFQ73 (spQ73 SQ73)

def shFQ36 : FnSh := ⟨[.agg [.bool, .roi .u32, .int .i64], .agg [.bool, .roi .u32, .int .i64]], []⟩
def spQ36 (SQ36 : TSQ36) : List Atom -> (V -> List Blk -> Bool) -> Bool := fun a_ c_ => match a_ with
  | [.bool a_0, .ints a_1, .int a_2, .bool b_0, .ints b_1, .int b_2] => SQ36 a_0 a_1 a_2 b_0 b_1 b_2 (fun r0 r1 => c_ (.tup [.int .i64 r0, .int .i64 r1]) [])
  | _ => false
abbrev FQ36 (SQ36 : TSQ36) : Fs := mkFs shFQ36 (spQ36 SQ36)

def shFQ71 : FnSh := ⟨[.agg [.flt, .flt, .flt, .flt]], []⟩
def spQ71 (SQ71 : TSQ71) : List Atom -> (V -> List Blk -> Bool) -> Bool := fun a_ c_ => match a_ with
  | [.fl q_0, .fl q_1, .fl q_2, .fl q_3] => SQ71 q_0 q_1 q_2 q_3 (fun r0 => c_ (.bool r0) [])
  | _ => false
abbrev FQ71 (SQ71 : TSQ71) : Fs := mkFs shFQ71 (spQ71 SQ71)

def shFQ70 : FnSh := ⟨[], []⟩
def spQ70 (SQ70 : TSQ70) : List Atom -> (V -> List Blk -> Bool) -> Bool := fun a_ c_ => match a_ with
  | [] => SQ70 (fun r0 r1 r2 r3 => c_ (.agg [.flt r0, .flt r1, .flt r2, .flt r3]) [])
  | _ => false
abbrev FQ70 (SQ70 : TSQ70) : Fs := mkFs shFQ70 (spQ70 SQ70)

def shFQ45 : FnSh := ⟨[], []⟩
def spQ45 (SQ45 : TSQ45) : List Atom -> (V -> List Blk -> Bool) -> Bool := fun a_ c_ => match a_ with
  | [] => SQ45 (fun r0 => c_ (.bool r0) [])
  | _ => false
abbrev FQ45 (SQ45 : TSQ45) : Fs := mkFs shFQ45 (spQ45 SQ45)

def shFQ52 : FnSh := ⟨[.int .u64], []⟩
def spQ52 (SQ52 : TSQ52) : List Atom -> (V -> List Blk -> Bool) -> Bool := fun a_ c_ => match a_ with
  | [.int b] => SQ52 b (fun r0 => c_ (.flt r0) [])
  | _ => false
abbrev FQ52 (SQ52 : TSQ52) : Fs := mkFs shFQ52 (spQ52 SQ52)

def shFQ41 : FnSh := ⟨[.agg [.int .u64, .int .u64, .int .u64, .int .u64]], []⟩
def spQ41 (SQ41 : TSQ41) : List Atom -> (V -> List Blk -> Bool) -> Bool := fun a_ c_ => match a_ with
  | [.int q_0, .int q_1, .int q_2, .int q_3] => SQ41 q_0 q_1 q_2 q_3 (fun r0 r1 r2 r3 => c_ (.agg [.flt r0, .flt r1, .flt r2, .flt r3]) [])
  | _ => false
abbrev FQ41 (SQ41 : TSQ41) : Fs := mkFs shFQ41 (spQ41 SQ41)

def shFQ46 : FnSh := ⟨[.agg [.int .u64, .int .u64, .int .u64]], []⟩
def spQ46 (SQ46 : TSQ46) : List Atom -> (V -> List Blk -> Bool) -> Bool := fun a_ c_ => match a_ with
  | [.int v_0, .int v_1, .int v_2] => SQ46 v_0 v_1 v_2 (fun r0 r1 r2 => c_ (.agg [.flt r0, .flt r1, .flt r2]) [])
  | _ => false
abbrev FQ46 (SQ46 : TSQ46) : Fs := mkFs shFQ46 (spQ46 SQ46)

def shFQ47 : FnSh := ⟨[.agg [.flt, .flt, .flt]], []⟩
def spQ47 (SQ47 : TSQ47) : List Atom -> (V -> List Blk -> Bool) -> Bool := fun a_ c_ => match a_ with
  | [.fl v_0, .fl v_1, .fl v_2] => SQ47 v_0 v_1 v_2 (fun r0 => c_ (.bool r0) [])
  | _ => false
abbrev FQ47 (SQ47 : TSQ47) : Fs := mkFs shFQ47 (spQ47 SQ47)

def shFQ113 : FnSh := ⟨[], []⟩
def spQ113 (SQ113 : TSQ113) : List Atom -> (V -> List Blk -> Bool) -> Bool := fun a_ c_ => match a_ with
  | [] => SQ113 (fun r0 r1 => c_ (.agg [.ptr 0 0, .int .i64 r0]) [⟨98, 1, .cells [.bool r1, .nil]⟩])
  | _ => false
abbrev FQ113 (SQ113 : TSQ113) : Fs := mkFs shFQ113 (spQ113 SQ113)

def shFQ135 : FnSh := ⟨[.flt], []⟩
def spQ135 (SQ135 : TSQ135) : List Atom -> (V -> List Blk -> Bool) -> Bool := fun a_ c_ => match a_ with
  | [.fl x] => SQ135 x (fun r0 => c_ (.int .u64 r0) [])
  | _ => false
abbrev FQ135 (SQ135 : TSQ135) : Fs := mkFs shFQ135 (spQ135 SQ135)

def shFQ101 : FnSh := ⟨[.flt], []⟩
def spQ101 (SQ101 : TSQ101) : List Atom -> (V -> List Blk -> Bool) -> Bool := fun a_ c_ => match a_ with
  | [.fl x] => SQ101 x (fun r0 r1 r2 => c_ (.tup [.bool r0, .int .i64 r1, .int .u64 r2]) [])
  | _ => false
abbrev FQ101 (SQ101 : TSQ101) : Fs := mkFs shFQ101 (spQ101 SQ101)

def shFQ123 : FnSh := ⟨[.int .u64, .int .i64], []⟩
def spQ123 (SQ123 : TSQ123) : List Atom -> (V -> List Blk -> Bool) -> Bool := fun a_ c_ => match a_ with
  | [.int m, .int e] => SQ123 m e (fun r0 r1 => c_ (.tup [.int .u64 r0, .int .i64 r1]) [])
  | _ => false
abbrev FQ123 (SQ123 : TSQ123) : Fs := mkFs shFQ123 (spQ123 SQ123)

def shFQ120 : FnSh := ⟨[.flt], []⟩
def spQ120 (SQ120 : TSQ120) : List Atom -> (V -> List Blk -> Bool) -> Bool := fun a_ c_ => match a_ with
  | [.fl x] => SQ120 x (fun r0 r1 r2 r3 => c_ (.tup [.agg [.bool r0, .int .u64 r1, .int .i64 r2], .int .i64 r3]) [])
  | _ => false
abbrev FQ120 (SQ120 : TSQ120) : Fs := mkFs shFQ120 (spQ120 SQ120)

def shFQ10 : FnSh := ⟨[.slw 0], [some (87, 1, .ints .u32)]⟩
def spQ10 (SQ10 : TSQ10) : List Atom -> (V -> List Blk -> Bool) -> Bool := fun a_ c_ => match a_ with
  | [.ints b] => SQ10 b (fun r0 r1 => c_ (.sl 0 r0 r1) [⟨87, 1, .ints .u32 b⟩])
  | _ => false
abbrev FQ10 (SQ10 : TSQ10) : Fs := mkFs shFQ10 (spQ10 SQ10)

def shFQ100 : FnSh := ⟨[.int .u64], []⟩
def spQ100 (SQ100 : TSQ100) : List Atom -> (V -> List Blk -> Bool) -> Bool := fun a_ c_ => match a_ with
  | [.int n] => SQ100 n (fun r0 => c_ (.roi .u32 r0) [])
  | _ => false
abbrev FQ100 (SQ100 : TSQ100) : Fs := mkFs shFQ100 (spQ100 SQ100)

def shFQ141 : FnSh := ⟨[.roi .u32], []⟩
def spQ141 (SQ141 : TSQ141) : List Atom -> (V -> List Blk -> Bool) -> Bool := fun a_ c_ => match a_ with
  | [.ints m] => SQ141 m (fun r0 => c_ (.roi .u32 r0) [])
  | _ => false
abbrev FQ141 (SQ141 : TSQ141) : Fs := mkFs shFQ141 (spQ141 SQ141)

def shFQ37 : FnSh := ⟨[.ptr 0 0, .bool, .roi .u32], [some (98, 1, .cells [.bool, .nil])]⟩
def spQ37 (SQ37 : TSQ37) : List Atom -> (V -> List Blk -> Bool) -> Bool := fun a_ c_ => match a_ with
  | [.bool neg, .ints m, .bool b] => SQ37 neg m b (fun r0 r1 => c_ (.ptr 0 0) [⟨98, 1, .cells [.bool r0, .roi .u32 r1]⟩])
  | _ => false
abbrev FQ37 (SQ37 : TSQ37) : Fs := mkFs shFQ37 (spQ37 SQ37)

def shFQ64 : FnSh := ⟨[.ptr 0 0, .int .u64], [some (98, 1, .cells [.bool, .nil])]⟩
def spQ64 (SQ64 : TSQ64) : List Atom -> (V -> List Blk -> Bool) -> Bool := fun a_ c_ => match a_ with
  | [.int n, .bool b] => SQ64 n b (fun r0 r1 => c_ (.ptr 0 0) [⟨98, 1, .cells [.bool r0, .roi .u32 r1]⟩])
  | _ => false
abbrev FQ64 (SQ64 : TSQ64) : Fs := mkFs shFQ64 (spQ64 SQ64)

def shFQ97 : FnSh := ⟨[.ptr 0 0, .bool, .slw 1], [some (98, 1, .cells [.bool, .roi .u32]), some (87, 1, .ints .u32)]⟩
def spQ97 (SQ97 : TSQ97) : List Atom -> (V -> List Blk -> Bool) -> Bool := fun a_ c_ => match a_ with
  | [.bool neg, .bool b, .ints b_1, .ints b_2] => SQ97 neg b b_1 b_2 (fun r0 r1 r2 => c_ (.ptr 0 0) [⟨98, 1, .cells [.bool r0, .sl 1 r1 r2]⟩, ⟨87, 1, .ints .u32 b_2⟩])
  | _ => false
abbrev FQ97 (SQ97 : TSQ97) : Fs := mkFs shFQ97 (spQ97 SQ97)

def shFQ94 : FnSh := ⟨[.ptr 0 0, .ptr 0 0], [some (98, 1, .cells [.bool, .roi .u32])]⟩
def spQ94 (SQ94 : TSQ94) : List Atom -> (V -> List Blk -> Bool) -> Bool := fun a_ c_ => match a_ with
  | [.bool b, .ints b_1] => SQ94 b b_1 (fun r0 r1 => c_ (.ptr 0 0) [⟨98, 1, .cells [.bool r0, .roi .u32 r1]⟩])
  | _ => false
abbrev FQ94 (SQ94 : TSQ94) : Fs := mkFs shFQ94 (spQ94 SQ94)

def shFQ118 : FnSh := ⟨[.flt], []⟩
def spQ118 (SQ118 : TSQ118) : List Atom -> (V -> List Blk -> Bool) -> Bool := fun a_ c_ => match a_ with
  | [.fl x] => SQ118 x (fun r0 r1 r2 => c_ (.agg [.ptr 0 0, .int .i64 r0]) [⟨98, 1, .cells [.bool r1, .roi .u32 r2]⟩])
  | _ => false
abbrev FQ118 (SQ118 : TSQ118) : Fs := mkFs shFQ118 (spQ118 SQ118)

def shFQ91 : FnSh := ⟨[.roi .u32, .roi .u32], []⟩
def spQ91 (SQ91 : TSQ91) : List Atom -> (V -> List Blk -> Bool) -> Bool := fun a_ c_ => match a_ with
  | [.ints a, .ints b] => SQ91 a b (fun r0 => c_ (.roi .u32 r0) [])
  | _ => false
abbrev FQ91 (SQ91 : TSQ91) : Fs := mkFs shFQ91 (spQ91 SQ91)

def shFQ67 : FnSh := ⟨[.ptr 0 0, .ptr 1 0, .ptr 2 0], [some (98, 1, .cells [.bool, .nil]), some (98, 1, .cells [.bool, .roi .u32]), some (98, 1, .cells [.bool, .roi .u32])]⟩
def spQ67 (SQ67 : TSQ67) : List Atom -> (V -> List Blk -> Bool) -> Bool := fun a_ c_ => match a_ with
  | [.bool b, .bool b_1, .ints b_2, .bool b_3, .ints b_4] => SQ67 b b_1 b_2 b_3 b_4 (fun r0 r1 => c_ (.ptr 0 0) [⟨98, 1, .cells [.bool r0, .roi .u32 r1]⟩, ⟨98, 1, .cells [.bool b_1, .roi .u32 b_2]⟩, ⟨98, 1, .cells [.bool b_3, .roi .u32 b_4]⟩])
  | _ => false
abbrev FQ67 (SQ67 : TSQ67) : Fs := mkFs shFQ67 (spQ67 SQ67)

def shFQ2 : FnSh := ⟨[.agg [.ptr 0 0, .int .i64], .agg [.ptr 1 0, .int .i64]], [some (98, 1, .cells [.bool, .roi .u32]), some (98, 1, .cells [.bool, .roi .u32])]⟩
def spQ2 (SQ2 : TSQ2) : List Atom -> (V -> List Blk -> Bool) -> Bool := fun a_ c_ => match a_ with
  | [.int x, .int y, .bool b, .ints b_1, .bool b_2, .ints b_3] => SQ2 x y b b_1 b_2 b_3 (fun r0 r5 r6 => c_ (.agg [.ptr 2 0, .int .i64 r0]) [⟨98, 1, .cells [.bool b, .roi .u32 b_1]⟩, ⟨98, 1, .cells [.bool b_2, .roi .u32 b_3]⟩, ⟨98, 1, .cells [.bool r5, .roi .u32 r6]⟩])
  | _ => false
abbrev FQ2 (SQ2 : TSQ2) : Fs := mkFs shFQ2 (spQ2 SQ2)

def shFQ104 : FnSh := ⟨[.ptr 0 0], [some (98, 1, .cells [.bool, .nil])]⟩
def spQ104 (SQ104 : TSQ104) : List Atom -> (V -> List Blk -> Bool) -> Bool := fun a_ c_ => match a_ with
  | [.bool b] => SQ104 b (fun r0 r2 => c_ (.int .i64 r0) [⟨98, 1, .cells [.bool b, .roi .u32 r2]⟩])
  | _ => false
abbrev FQ104 (SQ104 : TSQ104) : Fs := mkFs shFQ104 (spQ104 SQ104)

def shFQ57 : FnSh := ⟨[.ptr 0 0], [some (98, 1, .cells [.bool, .roi .u32])]⟩
def spQ57 (SQ57 : TSQ57) : List Atom -> (V -> List Blk -> Bool) -> Bool := fun a_ c_ => match a_ with
  | [.bool b, .ints b_1] => SQ57 b b_1 (fun r0 => c_ (.int .i64 r0) [⟨98, 1, .cells [.bool b, .roi .u32 b_1]⟩])
  | _ => false
abbrev FQ57 (SQ57 : TSQ57) : Fs := mkFs shFQ57 (spQ57 SQ57)

def shFQ131 : FnSh := ⟨[.roi .u32, .int .u64], []⟩
def spQ131 (SQ131 : TSQ131) : List Atom -> (V -> List Blk -> Bool) -> Bool := fun a_ c_ => match a_ with
  | [.ints m, .int n] => SQ131 m n (fun r0 => c_ (.roi .u32 r0) [])
  | _ => false
abbrev FQ131 (SQ131 : TSQ131) : Fs := mkFs shFQ131 (spQ131 SQ131)

def shFQ82 : FnSh := ⟨[.ptr 0 0, .ptr 1 0, .int .u64], [some (98, 1, .cells [.bool, .nil]), some (98, 1, .cells [.bool, .roi .u32])]⟩
def spQ82 (SQ82 : TSQ82) : List Atom -> (V -> List Blk -> Bool) -> Bool := fun a_ c_ => match a_ with
  | [.int n, .bool b, .bool b_1, .ints b_2] => SQ82 n b b_1 b_2 (fun r0 r1 => c_ (.ptr 0 0) [⟨98, 1, .cells [.bool r0, .roi .u32 r1]⟩, ⟨98, 1, .cells [.bool b_1, .roi .u32 b_2]⟩])
  | _ => false
abbrev FQ82 (SQ82 : TSQ82) : Fs := mkFs shFQ82 (spQ82 SQ82)

def shFQ27 : FnSh := ⟨[.agg [.ptr 0 0, .int .i64], .int .i64], [some (98, 1, .cells [.bool, .roi .u32])]⟩
def spQ27 (SQ27 : TSQ27) : List Atom -> (V -> List Blk -> Bool) -> Bool := fun a_ c_ => match a_ with
  | [.int x, .int e, .bool b, .ints b_1] => SQ27 x e b b_1 (c_ (.agg [.ptr 0 0, .int .i64 x]) [⟨98, 1, .cells [.bool b, .roi .u32 b_1]⟩]) (fun r3 r4 => c_ (.agg [.ptr 1 0, .int .i64 e]) [⟨98, 1, .cells [.bool b, .roi .u32 b_1]⟩, ⟨98, 1, .cells [.bool r3, .roi .u32 r4]⟩])
  | _ => false
abbrev FQ27 (SQ27 : TSQ27) : Fs := mkFs shFQ27 (spQ27 SQ27)

def shFQ132 : FnSh := ⟨[.roi .u32, .roi .u32], []⟩
def spQ132 (SQ132 : TSQ132) : List Atom -> (V -> List Blk -> Bool) -> Bool := fun a_ c_ => match a_ with
  | [.ints a, .ints b] => SQ132 a b (fun r0 => c_ (.roi .u32 r0) [])
  | _ => false
abbrev FQ132 (SQ132 : TSQ132) : Fs := mkFs shFQ132 (spQ132 SQ132)

def shFQ99 : FnSh := ⟨[.roi .u32, .roi .u32], []⟩
def spQ99 (SQ99 : TSQ99) : List Atom -> (V -> List Blk -> Bool) -> Bool := fun a_ c_ => match a_ with
  | [.ints a, .ints b] => SQ99 a b (fun r0 => c_ (.int .i64 r0) [])
  | _ => false
abbrev FQ99 (SQ99 : TSQ99) : Fs := mkFs shFQ99 (spQ99 SQ99)

def shFQ121 : FnSh := ⟨[.roi .u32, .roi .u32], []⟩
def spQ121 (SQ121 : TSQ121) : List Atom -> (V -> List Blk -> Bool) -> Bool := fun a_ c_ => match a_ with
  | [.ints a, .ints b] => SQ121 a b (fun r0 => c_ (.roi .u32 r0) [])
  | _ => false
abbrev FQ121 (SQ121 : TSQ121) : Fs := mkFs shFQ121 (spQ121 SQ121)

def shFQ68 : FnSh := ⟨[.ptr 0 0, .ptr 1 0, .ptr 2 0, .bool], [some (98, 1, .cells [.bool, .nil]), some (98, 1, .cells [.bool, .roi .u32]), some (98, 1, .cells [.bool, .roi .u32])]⟩
def spQ68 (SQ68 : TSQ68) : List Atom -> (V -> List Blk -> Bool) -> Bool := fun a_ c_ => match a_ with
  | [.bool turn, .bool b, .bool b_1, .ints b_2, .bool b_3, .ints b_4] => SQ68 turn b b_1 b_2 b_3 b_4 (fun r0 r1 => c_ (.ptr 0 0) [⟨98, 1, .cells [.bool r0, .roi .u32 r1]⟩, ⟨98, 1, .cells [.bool b_1, .roi .u32 b_2]⟩, ⟨98, 1, .cells [.bool b_3, .roi .u32 b_4]⟩])
  | _ => false
abbrev FQ68 (SQ68 : TSQ68) : Fs := mkFs shFQ68 (spQ68 SQ68)

def shFQ44 : FnSh := ⟨[.ptr 0 0, .ptr 1 0, .ptr 2 0], [some (98, 1, .cells [.bool, .nil]), some (98, 1, .cells [.bool, .roi .u32]), some (98, 1, .cells [.bool, .roi .u32])]⟩
def spQ44 (SQ44 : TSQ44) : List Atom -> (V -> List Blk -> Bool) -> Bool := fun a_ c_ => match a_ with
  | [.bool b, .bool b_1, .ints b_2, .bool b_3, .ints b_4] => SQ44 b b_1 b_2 b_3 b_4 (fun r0 r1 => c_ (.ptr 0 0) [⟨98, 1, .cells [.bool r0, .roi .u32 r1]⟩, ⟨98, 1, .cells [.bool b_1, .roi .u32 b_2]⟩, ⟨98, 1, .cells [.bool b_3, .roi .u32 b_4]⟩])
  | _ => false
abbrev FQ44 (SQ44 : TSQ44) : Fs := mkFs shFQ44 (spQ44 SQ44)

def shFQ18 : FnSh := ⟨[.agg [.ptr 0 0, .int .i64], .agg [.ptr 1 0, .int .i64]], [some (98, 1, .cells [.bool, .nil]), some (98, 1, .cells [.bool, .roi .u32])]⟩
def spQ18 (SQ18 : TSQ18) : List Atom -> (V -> List Blk -> Bool) -> Bool := fun a_ c_ => match a_ with
  | [.int x, .int y, .bool b, .bool b_1, .ints b_2] => SQ18 x y b b_1 b_2 (fun r2 => c_ (.agg [.ptr 1 0, .int .i64 y]) [⟨98, 1, .cells [.bool b, .roi .u32 r2]⟩, ⟨98, 1, .cells [.bool b_1, .roi .u32 b_2]⟩]) (fun r2 => c_ (.agg [.ptr 0 0, .int .i64 x]) [⟨98, 1, .cells [.bool b, .roi .u32 r2]⟩, ⟨98, 1, .cells [.bool b_1, .roi .u32 b_2]⟩]) (fun r0 r2 r5 r6 => c_ (.agg [.ptr 2 0, .int .i64 r0]) [⟨98, 1, .cells [.bool b, .roi .u32 r2]⟩, ⟨98, 1, .cells [.bool b_1, .roi .u32 b_2]⟩, ⟨98, 1, .cells [.bool r5, .roi .u32 r6]⟩])
  | _ => false
abbrev FQ18 (SQ18 : TSQ18) : Fs := mkFs shFQ18 (spQ18 SQ18)

def shFQ3 : FnSh := ⟨[.agg [.ptr 0 0, .int .i64], .agg [.ptr 1 0, .int .i64]], [some (98, 1, .cells [.bool, .roi .u32]), some (98, 1, .cells [.bool, .roi .u32])]⟩
def spQ3 (SQ3 : TSQ3) : List Atom -> (V -> List Blk -> Bool) -> Bool := fun a_ c_ => match a_ with
  | [.int x, .int y, .bool b, .ints b_1, .bool b_2, .ints b_3] => SQ3 x y b b_1 b_2 b_3 (c_ (.agg [.ptr 1 0, .int .i64 y]) [⟨98, 1, .cells [.bool b, .roi .u32 b_1]⟩, ⟨98, 1, .cells [.bool b_2, .roi .u32 b_3]⟩]) (c_ (.agg [.ptr 0 0, .int .i64 x]) [⟨98, 1, .cells [.bool b, .roi .u32 b_1]⟩, ⟨98, 1, .cells [.bool b_2, .roi .u32 b_3]⟩]) (fun r0 r5 r6 => c_ (.agg [.ptr 2 0, .int .i64 r0]) [⟨98, 1, .cells [.bool b, .roi .u32 b_1]⟩, ⟨98, 1, .cells [.bool b_2, .roi .u32 b_3]⟩, ⟨98, 1, .cells [.bool r5, .roi .u32 r6]⟩])
  | _ => false
abbrev FQ3 (SQ3 : TSQ3) : Fs := mkFs shFQ3 (spQ3 SQ3)

def shFQ142 : FnSh := ⟨[.rof, .rof], []⟩
def spQ142 (SQ142 : TSQ142) : List Atom -> (V -> List Blk -> Bool) -> Bool := fun a_ c_ => match a_ with
  | [.fls a, .fls b] => SQ142 a b (fun r0 r1 r2 => c_ (.agg [.ptr 0 0, .int .i64 r0]) [⟨98, 1, .cells [.bool r1, .roi .u32 r2]⟩])
  | _ => false
abbrev FQ142 (SQ142 : TSQ142) : Fs := mkFs shFQ142 (spQ142 SQ142)

def shFQ31 : FnSh := ⟨[.agg [.flt, .flt, .flt]], []⟩
def spQ31 (SQ31 : TSQ31) : List Atom -> (V -> List Blk -> Bool) -> Bool := fun a_ c_ => match a_ with
  | [.fl v_0, .fl v_1, .fl v_2] => SQ31 v_0 v_1 v_2 (fun r0 r1 r2 => c_ (.agg [.ptr 0 0, .int .i64 r0]) [⟨98, 1, .cells [.bool r1, .roi .u32 r2]⟩])
  | _ => false
abbrev FQ31 (SQ31 : TSQ31) : Fs := mkFs shFQ31 (spQ31 SQ31)

def shFQ105 : FnSh := ⟨[.agg [.flt, .flt, .flt, .flt], .agg [.flt, .flt, .flt, .flt]], []⟩
def spQ105 (SQ105 : TSQ105) : List Atom -> (V -> List Blk -> Bool) -> Bool := fun a_ c_ => match a_ with
  | [.fl a_0, .fl a_1, .fl a_2, .fl a_3, .fl b_0, .fl b_1, .fl b_2, .fl b_3] => SQ105 a_0 a_1 a_2 a_3 b_0 b_1 b_2 b_3 (fun r0 r1 r2 r3 r4 => c_ (.tup [.agg [.flt r0, .flt r1, .flt r2, .flt r3], .int .i64 r4]) [])
  | _ => false
abbrev FQ105 (SQ105 : TSQ105) : Fs := mkFs shFQ105 (spQ105 SQ105)

def shFQ96 : FnSh := ⟨[.ptr 0 0, .bool, .slw 1], [some (98, 1, .cells [.bool, .nil]), some (87, 1, .ints .u32)]⟩
def spQ96 (SQ96 : TSQ96) : List Atom -> (V -> List Blk -> Bool) -> Bool := fun a_ c_ => match a_ with
  | [.bool neg, .bool b, .ints b_1] => SQ96 neg b b_1 (fun r0 r1 r2 => c_ (.ptr 0 0) [⟨98, 1, .cells [.bool r0, .sl 1 r1 r2]⟩, ⟨87, 1, .ints .u32 b_1⟩])
  | _ => false
abbrev FQ96 (SQ96 : TSQ96) : Fs := mkFs shFQ96 (spQ96 SQ96)

def shFQ83 : FnSh := ⟨[.ptr 0 0, .ptr 1 0], [some (98, 1, .cells [.bool, .nil]), some (98, 1, .cells [.bool, .roi .u32])]⟩
def spQ83 (SQ83 : TSQ83) : List Atom -> (V -> List Blk -> Bool) -> Bool := fun a_ c_ => match a_ with
  | [.bool b, .bool b_1, .ints b_2] => SQ83 b b_1 b_2 (fun r0 r1 => c_ (.ptr 0 0) [⟨98, 1, .cells [.bool r0, .roi .u32 r1]⟩, ⟨98, 1, .cells [.bool b_1, .roi .u32 b_2]⟩])
  | _ => false
abbrev FQ83 (SQ83 : TSQ83) : Fs := mkFs shFQ83 (spQ83 SQ83)

def shFQ20 : FnSh := ⟨[.agg [.ptr 0 0, .int .i64]], [some (98, 1, .cells [.bool, .roi .u32])]⟩
def spQ20 (SQ20 : TSQ20) : List Atom -> (V -> List Blk -> Bool) -> Bool := fun a_ c_ => match a_ with
  | [.int x, .bool b, .ints b_1] => SQ20 x b b_1 (fun r3 r4 => c_ (.agg [.ptr 1 0, .int .i64 x]) [⟨98, 1, .cells [.bool b, .roi .u32 b_1]⟩, ⟨98, 1, .cells [.bool r3, .roi .u32 r4]⟩])
  | _ => false
abbrev FQ20 (SQ20 : TSQ20) : Fs := mkFs shFQ20 (spQ20 SQ20)

def shFQ75 : FnSh := ⟨[.ptr 0 0, .ptr 1 0, .ptr 1 0], [some (98, 1, .cells [.bool, .nil]), some (98, 1, .cells [.bool, .roi .u32])]⟩
def spQ75 (SQ75 : TSQ75) : List Atom -> (V -> List Blk -> Bool) -> Bool := fun a_ c_ => match a_ with
  | [.bool b, .bool b_1, .ints b_2] => SQ75 b b_1 b_2 (fun r0 r1 => c_ (.ptr 0 0) [⟨98, 1, .cells [.bool r0, .roi .u32 r1]⟩, ⟨98, 1, .cells [.bool b_1, .roi .u32 b_2]⟩])
  | _ => false
abbrev FQ75 (SQ75 : TSQ75) : Fs := mkFs shFQ75 (spQ75 SQ75)

def shFQ16 : FnSh := ⟨[.agg [.ptr 0 0, .int .i64], .agg [.ptr 0 0, .int .i64]], [some (98, 1, .cells [.bool, .roi .u32])]⟩
def spQ16 (SQ16 : TSQ16) : List Atom -> (V -> List Blk -> Bool) -> Bool := fun a_ c_ => match a_ with
  | [.int x, .int y, .bool b, .ints b_1] => SQ16 x y b b_1 (fun r0 r3 r4 => c_ (.agg [.ptr 1 0, .int .i64 r0]) [⟨98, 1, .cells [.bool b, .roi .u32 b_1]⟩, ⟨98, 1, .cells [.bool r3, .roi .u32 r4]⟩])
  | _ => false
abbrev FQ16 (SQ16 : TSQ16) : Fs := mkFs shFQ16 (spQ16 SQ16)

def shFQ74 : FnSh := ⟨[.ptr 0 0, .int .i64], [some (98, 1, .cells [.bool, .nil])]⟩
def spQ74 (SQ74 : TSQ74) : List Atom -> (V -> List Blk -> Bool) -> Bool := fun a_ c_ => match a_ with
  | [.int n, .bool b] => SQ74 n b (fun r0 r1 => c_ (.ptr 0 0) [⟨98, 1, .cells [.bool r0, .roi .u32 r1]⟩])
  | _ => false
abbrev FQ74 (SQ74 : TSQ74) : Fs := mkFs shFQ74 (spQ74 SQ74)

def shFQ106 : FnSh := ⟨[.int .i64], []⟩
def spQ106 (SQ106 : TSQ106) : List Atom -> (V -> List Blk -> Bool) -> Bool := fun a_ c_ => match a_ with
  | [.int n] => SQ106 n (fun r0 r1 => c_ (.ptr 0 0) [⟨98, 1, .cells [.bool r0, .roi .u32 r1]⟩])
  | _ => false
abbrev FQ106 (SQ106 : TSQ106) : Fs := mkFs shFQ106 (spQ106 SQ106)

def shFQ86 : FnSh := ⟨[.int .i64], []⟩
def spQ86 (SQ86 : TSQ86) : List Atom -> (V -> List Blk -> Bool) -> Bool := fun a_ c_ => match a_ with
  | [.int e] => SQ86 e (fun r1 r2 => c_ (.agg [.ptr 0 0, .int .i64 e]) [⟨98, 1, .cells [.bool r1, .roi .u32 r2]⟩])
  | _ => false
abbrev FQ86 (SQ86 : TSQ86) : Fs := mkFs shFQ86 (spQ86 SQ86)

def shFQ12 : FnSh := ⟨[.agg [.ptr 0 0, .int .i64], .agg [.ptr 1 0, .int .i64]], [some (98, 1, .cells [.bool, .roi .u32]), some (98, 1, .cells [.bool, .roi .u32])]⟩
def spQ12 (SQ12 : TSQ12) : List Atom -> (V -> List Blk -> Bool) -> Bool := fun a_ c_ => match a_ with
  | [.int x, .int y, .bool b, .ints b_1, .bool b_2, .ints b_3] => SQ12 x y b b_1 b_2 b_3 (fun r0 => c_ (.int .i64 r0) [⟨98, 1, .cells [.bool b, .roi .u32 b_1]⟩, ⟨98, 1, .cells [.bool b_2, .roi .u32 b_3]⟩])
  | _ => false
abbrev FQ12 (SQ12 : TSQ12) : Fs := mkFs shFQ12 (spQ12 SQ12)

def shFQ21 : FnSh := ⟨[.agg [.flt, .flt, .flt], .agg [.flt, .flt, .flt], .int .i64, .agg [.ptr 0 0, .int .i64]], [some (98, 1, .cells [.bool, .roi .u32])]⟩
def spQ21 (SQ21 : TSQ21) : List Atom -> (V -> List Blk -> Bool) -> Bool := fun a_ c_ => match a_ with
  | [.fl a_0, .fl a_1, .fl a_2, .fl b_0, .fl b_1, .fl b_2, .int k_, .int square, .bool b, .ints b_3] => SQ21 a_0 a_1 a_2 b_0 b_1 b_2 k_ square b b_3 (fun r0 => c_ (.bool r0) [⟨98, 1, .cells [.bool b, .roi .u32 b_3]⟩])
  | _ => false
abbrev FQ21 (SQ21 : TSQ21) : Fs := mkFs shFQ21 (spQ21 SQ21)

def shFQ107 : FnSh := ⟨[.agg [.flt, .flt, .flt, .flt]], []⟩
def spQ107 (SQ107 : TSQ107) : List Atom -> (V -> List Blk -> Bool) -> Bool := fun a_ c_ => match a_ with
  | [.fl q_0, .fl q_1, .fl q_2, .fl q_3] => SQ107 q_0 q_1 q_2 q_3 (fun r0 r1 r2 r3 r4 => c_ (.tup [.agg [.flt r0, .flt r1, .flt r2, .flt r3], .int .i64 r4]) [])
  | _ => false
abbrev FQ107 (SQ107 : TSQ107) : Fs := mkFs shFQ107 (spQ107 SQ107)

def shFQ84 : FnSh := ⟨[.agg [.flt, .flt, .flt, .flt]], []⟩
def spQ84 (SQ84 : TSQ84) : List Atom -> (V -> List Blk -> Bool) -> Bool := fun a_ c_ => match a_ with
  | [.fl q_0, .fl q_1, .fl q_2, .fl q_3] => SQ84 q_0 q_1 q_2 q_3 (fun r0 r1 r2 => c_ (.tup [.agg [.int .i64 r0, .int .i64 r1, .nil], .int .i64 r2]) []) (fun r0 r1 r2 r3 => c_ (.tup [.agg [.int .i64 r0, .int .i64 r1, .slw 0], .int .i64 r2]) [⟨28, 1, .flts r3⟩])
  | _ => false
abbrev FQ84 (SQ84 : TSQ84) : Fs := mkFs shFQ84 (spQ84 SQ84)

def shFQ51 : FnSh := ⟨[.agg [.int .u64, .int .u64, .int .u64, .int .u64], .agg [.int .u64, .int .u64, .int .u64, .int .u64], .agg [.int .u64, .int .u64, .int .u64]], []⟩
end Go.Proofs.YtnfgnjciliapaaaGreatDoor
