/-
  THE MEANINGS, as specifications (written by program).
  Conditions: none.
-/
import Derived.Test.YtnfgnjciliapaaaGreatDoorGp
import Derived.Test.YtnfgnjciliapaaaGreatDoorMachP
import Derived.Test.YtnfgnjciliapaaaGreatDoorProg
namespace Go.Proofs.YtnfgnjciliapaaaGreatDoor
open Go Go.Mach Go.Proofs
set_option linter.unusedVariables false
set_option maxRecDepth 50000
noncomputable abbrev Pg : Program := Tryz.prog
def sqs : Nat → List Sh → List Sh
 | 0, t => t
 | n + 1, t => .any :: sqs n t
def isref : Nat -> Bool := fun g => g == 147 || g == 99 || g == 167 || g == 139 || g == 1000166 || g == 1000145 || g == 1000143 || g == 1000056
def shFZ137 : FnSh := ⟨[.fb], []⟩
def spZ137 (SZ137 : TSZ137) : List Atom -> (V -> List Blk -> Bool) -> Bool := fun a_ c_ => match a_ with
 | [.nat a0] => SZ137 a0 (fun r0 => c_ (.int .u64 r0) [])
 | _ => false
abbrev FZ137 (SZ137 : TSZ137) : Fs := mkFs shFZ137 (spZ137 SZ137)
def shF_an_of : FnSh := ⟨[.litI .i64 0], []⟩
def sp_an_of (S_an_of : TS_an_of) : List Atom -> (V -> List Blk -> Bool) -> Bool := fun a_ c_ => match a_ with
 | [] => S_an_of (fun r0 r1 r2 => c_ (.agg [.int .u64 r0, .int .i64 r1, .int .i64 r2]) [])
 | _ => false
abbrev F_an_of (S_an_of : TS_an_of) : Fs := mkFs shF_an_of (sp_an_of S_an_of)
def shFZ139 : FnSh := ⟨[.agg [.int .u64, .int .i64, .int .i64]], []⟩
def spZ139 (SZ139 : TSZ139) : List Atom -> (V -> List Blk -> Bool) -> Bool := fun a_ c_ => match a_ with
 | [.int f_0, .int f_1, .int f_2] => SZ139 f_0 f_1 f_2 (fun r0 => c_ (.int .u64 r0) [])
 | _ => false
abbrev FZ139 (SZ139 : TSZ139) : Fs := mkFs shFZ139 (spZ139 SZ139)
def shFZ88 : FnSh := ⟨[.agg [.int .u64, .int .i64, .int .i64]], []⟩
def spZ88 (SZ88 : TSZ88) : List Atom -> (V -> List Blk -> Bool) -> Bool := fun a_ c_ => match a_ with
 | [.int f_0, .int f_1, .int f_2] => SZ88 f_0 f_1 f_2 (fun r0 => c_ (.int .u64 r0) [])
 | _ => false
abbrev FZ88 (SZ88 : TSZ88) : Fs := mkFs shFZ88 (spZ88 SZ88)
def shFZ86 : FnSh := ⟨[.int .u64, .agg [.int .u64, .int .i64, .int .i64]], []⟩
def spZ86 (SZ86 : TSZ86) : List Atom -> (V -> List Blk -> Bool) -> Bool := fun a_ c_ => match a_ with
 | [.int b, .int f_0, .int f_1, .int f_2] => SZ86 b f_0 f_1 f_2 (fun r0 => c_ (.bool r0) [])
 | _ => false
abbrev FZ86 (SZ86 : TSZ86) : Fs := mkFs shFZ86 (spZ86 SZ86)
def shFZ70 : FnSh := ⟨[.agg [.int .u64, .int .i64, .int .i64]], []⟩
def spZ70 (SZ70 : TSZ70) : List Atom -> (V -> List Blk -> Bool) -> Bool := fun a_ c_ => match a_ with
 | [.int f_0, .int f_1, .int f_2] => SZ70 f_0 f_1 f_2 (fun r0 => c_ (.int .u64 r0) [])
 | _ => false
abbrev FZ70 (SZ70 : TSZ70) : Fs := mkFs shFZ70 (spZ70 SZ70)
def shFZ150 : FnSh := ⟨[.agg [.int .u64, .int .i64, .int .i64]], []⟩
def spZ150 (SZ150 : TSZ150) : List Atom -> (V -> List Blk -> Bool) -> Bool := fun a_ c_ => match a_ with
 | [.int f_0, .int f_1, .int f_2] => SZ150 f_0 f_1 f_2 (fun r0 => c_ (.int .u64 r0) [])
 | _ => false
abbrev FZ150 (SZ150 : TSZ150) : Fs := mkFs shFZ150 (spZ150 SZ150)
def shFZ74 : FnSh := ⟨[.int .u64, .agg [.int .u64, .int .i64, .int .i64]], []⟩
def spZ74 (SZ74 : TSZ74) : List Atom -> (V -> List Blk -> Bool) -> Bool := fun a_ c_ => match a_ with
 | [.int b, .int f_0, .int f_1, .int f_2] => SZ74 b f_0 f_1 f_2 (fun r0 => c_ (.int .u64 r0) [])
 | _ => false
abbrev FZ74 (SZ74 : TSZ74) : Fs := mkFs shFZ74 (spZ74 SZ74)
def shFZ29 : FnSh := ⟨[.int .u64, .agg [.int .u64, .int .i64, .int .i64]], []⟩
def spZ29 (SZ29 : TSZ29) : List Atom -> (V -> List Blk -> Bool) -> Bool := fun a_ c_ => match a_ with
 | [.int b, .int f_0, .int f_1, .int f_2] => SZ29 b f_0 f_1 f_2 (fun r0 r1 r2 => c_ (.tup [.bool r0, .int .i64 r1, .int .u64 r2]) [])
 | _ => false
abbrev FZ29 (SZ29 : TSZ29) : Fs := mkFs shFZ29 (spZ29 SZ29)
def shFZ28 : FnSh := ⟨[.int .u64, .agg [.int .u64, .int .i64, .int .i64]], []⟩
def spZ28 (SZ28 : TSZ28) : List Atom -> (V -> List Blk -> Bool) -> Bool := fun a_ c_ => match a_ with
 | [.int b, .int f_0, .int f_1, .int f_2] => SZ28 b f_0 f_1 f_2 (fun r0 => c_ (.int .i64 r0) [])
 | _ => false
abbrev FZ28 (SZ28 : TSZ28) : Fs := mkFs shFZ28 (spZ28 SZ28)
def shFZ145 : FnSh := ⟨[.fb], []⟩
def spZ145 (SZ145 : TSZ145) : List Atom -> (V -> List Blk -> Bool) -> Bool := fun a_ c_ => match a_ with
 | [.nat x] => SZ145 x (fun r0 => c_ (.int .i64 r0) [])
 | _ => false
abbrev FZ145 (SZ145 : TSZ145) : Fs := mkFs shFZ145 (spZ145 SZ145)
def shFZ89 : FnSh := ⟨[.int .u64], []⟩
def spZ89 (SZ89 : TSZ89) : List Atom -> (V -> List Blk -> Bool) -> Bool := fun a_ c_ => match a_ with
 | [.int a0] => SZ89 a0 (fun r0 => c_ (.flt r0) [])
 | _ => false
abbrev FZ89 (SZ89 : TSZ89) : Fs := mkFs shFZ89 (spZ89 SZ89)
def shFZ157 : FnSh := ⟨[.fb], []⟩
def spZ157 (SZ157 : TSZ157) : List Atom -> (V -> List Blk -> Bool) -> Bool := fun a_ c_ => match a_ with
 | [.nat x] => SZ157 x (fun r0 => c_ (.flt r0) [])
 | _ => false
abbrev FZ157 (SZ157 : TSZ157) : Fs := mkFs shFZ157 (spZ157 SZ157)
def shFZ14 : FnSh := ⟨[.rof], []⟩
def spZ14 (SZ14 : TSZ14) : List Atom -> (V -> List Blk -> Bool) -> Bool := fun a_ c_ => match a_ with
 | [.fls l] => SZ14 l (fun r0 => c_ (.bool r0) [])
 | _ => false
abbrev FZ14 (SZ14 : TSZ14) : Fs := mkFs shFZ14 (spZ14 SZ14)
def shFZ10 : FnSh := ⟨[.ro 4 [.flt, .flt, .flt, .flt]], []⟩
def spZ10 (SZ10 : TSZ10) : List Atom -> (V -> List Blk -> Bool) -> Bool := fun a_ c_ => match a_ with
 | [.fl qs_0, .fl qs_1, .fl qs_2, .fl qs_3] => SZ10 qs_0 qs_1 qs_2 qs_3 (fun r0 => c_ (.bool r0) [])
 | _ => false
abbrev FZ10 (SZ10 : TSZ10) : Fs := mkFs shFZ10 (spZ10 SZ10)
def shFZ51 : FnSh := ⟨[.agg [.flt, .flt, .flt, .flt]], []⟩
def spZ51 (SZ51 : TSZ51) : List Atom -> (V -> List Blk -> Bool) -> Bool := fun a_ c_ => match a_ with
 | [.fl q_0, .fl q_1, .fl q_2, .fl q_3] => SZ51 q_0 q_1 q_2 q_3 (c_ (.agg [.flt q_0, .flt q_1, .flt q_2, .flt q_3]) [])
 | _ => false
abbrev FZ51 (SZ51 : TSZ51) : Fs := mkFs shFZ51 (spZ51 SZ51)
def shF_m_Abs : FnSh := ⟨[.flt], []⟩
def sp_m_Abs (S_m_Abs : TS_m_Abs) : List Atom -> (V -> List Blk -> Bool) -> Bool := fun a_ c_ => match a_ with
 | [.fl x] => S_m_Abs x (fun r0 => c_ (.flt r0) [])
 | _ => false
abbrev F_m_Abs (S_m_Abs : TS_m_Abs) : Fs := mkFs shF_m_Abs (sp_m_Abs S_m_Abs)
def shFZ112 : FnSh := ⟨[.flt, .int .i64], []⟩
def spZ112 (SZ112 : TSZ112) : List Atom -> (V -> List Blk -> Bool) -> Bool := fun a_ c_ => match a_ with
 | [.fl f, .int sign] => SZ112 f sign (fun r0 => c_ (.bool r0) [])
 | _ => false
abbrev FZ112 (SZ112 : TSZ112) : Fs := mkFs shFZ112 (spZ112 SZ112)
def shFZ116 : FnSh := ⟨[.flt], []⟩
def spZ116 (SZ116 : TSZ116) : List Atom -> (V -> List Blk -> Bool) -> Bool := fun a_ c_ => match a_ with
 | [.fl f] => SZ116 f (fun r0 => c_ (.bool r0) [])
 | _ => false
abbrev FZ116 (SZ116 : TSZ116) : Fs := mkFs shFZ116 (spZ116 SZ116)
def shFZ61 : FnSh := ⟨[.flt], []⟩
def spZ61 (SZ61 : TSZ61) : List Atom -> (V -> List Blk -> Bool) -> Bool := fun a_ c_ => match a_ with
 | [.fl x] => SZ61 x (fun r0 r1 => c_ (.tup [.flt r0, .int .i64 r1]) [])
 | _ => false
abbrev FZ61 (SZ61 : TSZ61) : Fs := mkFs shFZ61 (spZ61 SZ61)
def shFZ106 : FnSh := ⟨[.flt], []⟩
def spZ106 (SZ106 : TSZ106) : List Atom -> (V -> List Blk -> Bool) -> Bool := fun a_ c_ => match a_ with
 | [.fl a0] => SZ106 a0 (fun r0 => c_ (.int .u64 r0) [])
 | _ => false
abbrev FZ106 (SZ106 : TSZ106) : Fs := mkFs shFZ106 (spZ106 SZ106)
def shFZ152 : FnSh := ⟨[.flt], []⟩
def spZ152 (SZ152 : TSZ152) : List Atom -> (V -> List Blk -> Bool) -> Bool := fun a_ c_ => match a_ with
 | [.fl f] => SZ152 f (fun r0 r1 => c_ (.tup [.flt r0, .int .i64 r1]) [])
 | _ => false
abbrev FZ152 (SZ152 : TSZ152) : Fs := mkFs shFZ152 (spZ152 SZ152)
def shFZ108 : FnSh := ⟨[.flt], []⟩
def spZ108 (SZ108 : TSZ108) : List Atom -> (V -> List Blk -> Bool) -> Bool := fun a_ c_ => match a_ with
 | [.fl f] => SZ108 f (fun r0 r1 => c_ (.tup [.flt r0, .int .i64 r1]) [])
 | _ => false
abbrev FZ108 (SZ108 : TSZ108) : Fs := mkFs shFZ108 (spZ108 SZ108)
def shFZ95 : FnSh := ⟨[.flt, .flt], []⟩
def spZ95 (SZ95 : TSZ95) : List Atom -> (V -> List Blk -> Bool) -> Bool := fun a_ c_ => match a_ with
 | [.fl f, .fl sign] => SZ95 f sign (fun r0 => c_ (.flt r0) [])
 | _ => false
abbrev FZ95 (SZ95 : TSZ95) : Fs := mkFs shFZ95 (spZ95 SZ95)
def shF_m_Inf : FnSh := ⟨[.int .i64], []⟩
def sp_m_Inf (S_m_Inf : TS_m_Inf) : List Atom -> (V -> List Blk -> Bool) -> Bool := fun a_ c_ => match a_ with
 | [.int sign] => S_m_Inf sign (fun r0 => c_ (.flt r0) [])
 | _ => false
abbrev F_m_Inf (S_m_Inf : TS_m_Inf) : Fs := mkFs shF_m_Inf (sp_m_Inf S_m_Inf)
def shFZ147 : FnSh := ⟨[.flt, .int .i64], []⟩
def spZ147 (SZ147 : TSZ147) : List Atom -> (V -> List Blk -> Bool) -> Bool := fun a_ c_ => match a_ with
 | [.fl frac, .int exp] => SZ147 frac exp (fun r0 => c_ (.flt r0) [])
 | _ => false
abbrev FZ147 (SZ147 : TSZ147) : Fs := mkFs shFZ147 (spZ147 SZ147)
def shFZ48 : FnSh := ⟨[.flt, .int .i64], []⟩
def spZ48 (SZ48 : TSZ48) : List Atom -> (V -> List Blk -> Bool) -> Bool := fun a_ c_ => match a_ with
 | [.fl frac, .int exp] => SZ48 frac exp (fun r0 => c_ (.flt r0) [])
 | _ => false
abbrev FZ48 (SZ48 : TSZ48) : Fs := mkFs shFZ48 (spZ48 SZ48)
def shFZ165 : FnSh := ⟨[.flt], []⟩
def spZ165 (SZ165 : TSZ165) : List Atom -> (V -> List Blk -> Bool) -> Bool := fun a_ c_ => match a_ with
 | [.fl a0] => SZ165 a0 (fun r0 => c_ (.flt r0) [])
 | _ => false
abbrev FZ165 (SZ165 : TSZ165) : Fs := mkFs shFZ165 (spZ165 SZ165)
def shFZ138 : FnSh := ⟨[.flt], []⟩
def spZ138 (SZ138 : TSZ138) : List Atom -> (V -> List Blk -> Bool) -> Bool := fun a_ c_ => match a_ with
 | [.fl x] => SZ138 x (fun r0 => c_ (.flt r0) [])
 | _ => false
abbrev FZ138 (SZ138 : TSZ138) : Fs := mkFs shFZ138 (spZ138 SZ138)
def shFZ133 : FnSh := ⟨[.agg [.flt, .flt, .flt, .flt]], []⟩
def spZ133 (SZ133 : TSZ133) : List Atom -> (V -> List Blk -> Bool) -> Bool := fun a_ c_ => match a_ with
 | [.fl l_0, .fl l_1, .fl l_2, .fl l_3] => SZ133 l_0 l_1 l_2 l_3 (c_ (.agg [.flt l_0, .flt l_1, .flt l_2, .flt l_3]) [])
 | _ => false
abbrev FZ133 (SZ133 : TSZ133) : Fs := mkFs shFZ133 (spZ133 SZ133)
def shFZ62 : FnSh := ⟨[.agg [.flt, .flt, .flt, .flt]], []⟩
def spZ62 (SZ62 : TSZ62) : List Atom -> (V -> List Blk -> Bool) -> Bool := fun a_ c_ => match a_ with
 | [.fl q_0, .fl q_1, .fl q_2, .fl q_3] => SZ62 q_0 q_1 q_2 q_3 (fun r0 r1 r2 r3 r4 => c_ (.tup [.agg [.flt r0, .flt r1, .flt r2, .flt r3], .int .i64 r4]) [])
 | _ => false
abbrev FZ62 (SZ62 : TSZ62) : Fs := mkFs shFZ62 (spZ62 SZ62)
def shFZ114 : FnSh := ⟨[.agg [.flt, .flt, .flt], .agg [.flt, .flt, .flt]], []⟩
def spZ114 (SZ114 : TSZ114) : List Atom -> (V -> List Blk -> Bool) -> Bool := fun a_ c_ => match a_ with
 | [.fl a_0, .fl a_1, .fl a_2, .fl b_0, .fl b_1, .fl b_2] => SZ114 a_0 a_1 a_2 b_0 b_1 b_2 (fun r0 r1 r2 => c_ (.agg [.flt r0, .flt r1, .flt r2]) [])
 | _ => false
abbrev FZ114 (SZ114 : TSZ114) : Fs := mkFs shFZ114 (spZ114 SZ114)
def shFZ110 : FnSh := ⟨[.agg [.flt, .flt, .flt]], []⟩
def spZ110 (SZ110 : TSZ110) : List Atom -> (V -> List Blk -> Bool) -> Bool := fun a_ c_ => match a_ with
 | [.fl v_0, .fl v_1, .fl v_2] => SZ110 v_0 v_1 v_2 (fun r0 r1 r2 r3 => c_ (.tup [.agg [.flt r0, .flt r1, .flt r2], .int .i64 r3]) [])
 | _ => false
abbrev FZ110 (SZ110 : TSZ110) : Fs := mkFs shFZ110 (spZ110 SZ110)
def shFZ127 : FnSh := ⟨[.agg [.flt, .flt, .flt, .flt], .agg [.flt, .flt, .flt]], []⟩
def spZ127 (SZ127 : TSZ127) : List Atom -> (V -> List Blk -> Bool) -> Bool := fun a_ c_ => match a_ with
 | [.fl q_0, .fl q_1, .fl q_2, .fl q_3, .fl v_0, .fl v_1, .fl v_2] => SZ127 q_0 q_1 q_2 q_3 v_0 v_1 v_2 (fun r0 r1 r2 r3 => c_ (.tup [.agg [.flt r0, .flt r1, .flt r2], .int .i64 r3]) [])
 | _ => false
abbrev FZ127 (SZ127 : TSZ127) : Fs := mkFs shFZ127 (spZ127 SZ127)
def shFZ79 : FnSh := ⟨[.ro 4 [.flt, .flt, .flt, .flt, .flt, .flt, .flt, .flt]], []⟩
def spZ79 (SZ79 : TSZ79) : List Atom -> (V -> List Blk -> Bool) -> Bool := fun a_ c_ => match a_ with
 | [.fl qs_0, .fl qs_1, .fl qs_2, .fl qs_3, .fl qs_4, .fl qs_5, .fl qs_6, .fl qs_7] => SZ79 qs_0 qs_1 qs_2 qs_3 qs_4 qs_5 qs_6 qs_7 (fun r0 => c_ (.bool r0) [])
 | _ => false
abbrev FZ79 (SZ79 : TSZ79) : Fs := mkFs shFZ79 (spZ79 SZ79)
def shFZ146 : FnSh := ⟨[.agg [.flt, .flt, .flt, .flt], .agg [.flt, .flt, .flt, .flt]], []⟩
def spZ146 (SZ146 : TSZ146) : List Atom -> (V -> List Blk -> Bool) -> Bool := fun a_ c_ => match a_ with
 | [.fl a_0, .fl a_1, .fl a_2, .fl a_3, .fl b_0, .fl b_1, .fl b_2, .fl b_3] => SZ146 a_0 a_1 a_2 a_3 b_0 b_1 b_2 b_3 (fun r0 r1 r2 r3 => c_ (.agg [.flt r0, .flt r1, .flt r2, .flt r3]) [])
 | _ => false
abbrev FZ146 (SZ146 : TSZ146) : Fs := mkFs shFZ146 (spZ146 SZ146)
def shFZ87 : FnSh := ⟨[.agg [.flt, .flt, .flt, .flt]], []⟩
def spZ87 (SZ87 : TSZ87) : List Atom -> (V -> List Blk -> Bool) -> Bool := fun a_ c_ => match a_ with
 | [.fl q_0, .fl q_1, .fl q_2, .fl q_3] => SZ87 q_0 q_1 q_2 q_3 (fun r0 r1 r2 r3 r4 => c_ (.tup [.agg [.flt r0, .flt r1, .flt r2, .flt r3], .int .i64 r4]) [])
 | _ => false
abbrev FZ87 (SZ87 : TSZ87) : Fs := mkFs shFZ87 (spZ87 SZ87)
def shFZ118 : FnSh := ⟨[.agg [.flt, .flt, .flt, .flt], .agg [.flt, .flt, .flt, .flt]], []⟩
def spZ118 (SZ118 : TSZ118) : List Atom -> (V -> List Blk -> Bool) -> Bool := fun a_ c_ => match a_ with
 | [.fl a_0, .fl a_1, .fl a_2, .fl a_3, .fl b_0, .fl b_1, .fl b_2, .fl b_3] => SZ118 a_0 a_1 a_2 a_3 b_0 b_1 b_2 b_3 (fun r0 r1 r2 r3 r4 => c_ (.tup [.agg [.flt r0, .flt r1, .flt r2, .flt r3], .int .i64 r4]) [])
 | _ => false
abbrev FZ118 (SZ118 : TSZ118) : Fs := mkFs shFZ118 (spZ118 SZ118)
def shFZ129 : FnSh := ⟨[.flt], []⟩
def spZ129 (SZ129 : TSZ129) : List Atom -> (V -> List Blk -> Bool) -> Bool := fun a_ c_ => match a_ with
 | [.fl x] => SZ129 x (fun r0 => c_ (.int .i64 r0) [])
 | _ => false
abbrev FZ129 (SZ129 : TSZ129) : Fs := mkFs shFZ129 (spZ129 SZ129)
def shFZ66 : FnSh := ⟨[.rof], []⟩
def spZ66 (SZ66 : TSZ66) : List Atom -> (V -> List Blk -> Bool) -> Bool := fun a_ c_ => match a_ with
 | [.fls l] => SZ66 l (fun r0 => c_ (.bool r0) [])
 | _ => false
abbrev FZ66 (SZ66 : TSZ66) : Fs := mkFs shFZ66 (spZ66 SZ66)
def shFZ9 : FnSh := ⟨[.int .u64], []⟩
def spZ9 (SZ9 : TSZ9) : List Atom -> (V -> List Blk -> Bool) -> Bool := fun a_ c_ => match a_ with
 | [.int x] => SZ9 x (fun r0 => c_ (.int .i64 r0) [])
 | _ => false
abbrev FZ9 (SZ9 : TSZ9) : Fs := mkFs shFZ9 (spZ9 SZ9)
def shFZ63 : FnSh := ⟨[.int .u64, .agg [.int .u64, .int .i64, .int .i64]], []⟩
def spZ63 (SZ63 : TSZ63) : List Atom -> (V -> List Blk -> Bool) -> Bool := fun a_ c_ => match a_ with
 | [.int b, .int f_0, .int f_1, .int f_2] => SZ63 b f_0 f_1 f_2 (fun r0 r1 r2 r3 => c_ (.tup [.agg [.bool r0, .int .u64 r1, .int .i64 r2], .int .i64 r3]) [])
 | _ => false
abbrev FZ63 (SZ63 : TSZ63) : Fs := mkFs shFZ63 (spZ63 SZ63)
def shFZ143 : FnSh := ⟨[.flt], []⟩
def spZ143 (SZ143 : TSZ143) : List Atom -> (V -> List Blk -> Bool) -> Bool := fun a_ c_ => match a_ with
 | [.fl x] => SZ143 x (fun r0 r1 r2 r3 => c_ (.tup [.agg [.bool r0, .int .u64 r1, .int .i64 r2], .int .i64 r3]) [])
 | _ => false
abbrev FZ143 (SZ143 : TSZ143) : Fs := mkFs shFZ143 (spZ143 SZ143)
def shFZ5 : FnSh := ⟨[.slw 0], [some (22, 1, .ints .u64)]⟩
def spZ5 (SZ5 : TSZ5) : List Atom -> (V -> List Blk -> Bool) -> Bool := fun a_ c_ => match a_ with
 | [.ints b] => SZ5 b (fun r0 r1 => c_ (.sl 0 r0 r1) [⟨22, 1, .ints .u64 b⟩])
 | _ => false
abbrev FZ5 (SZ5 : TSZ5) : Fs := mkFs shFZ5 (spZ5 SZ5)
def shFZ115 : FnSh := ⟨[.int .u64], []⟩
def spZ115 (SZ115 : TSZ115) : List Atom -> (V -> List Blk -> Bool) -> Bool := fun a_ c_ => match a_ with
 | [.int n] => SZ115 n (fun r0 => c_ (.roi .u64 r0) [])
 | _ => false
abbrev FZ115 (SZ115 : TSZ115) : Fs := mkFs shFZ115 (spZ115 SZ115)
def shFZ4 : FnSh := ⟨[.ptr 0 0, .bool, .roi .u64], [some (126, 1, .cells [.bool, .nil])]⟩
def spZ4 (SZ4 : TSZ4) : List Atom -> (V -> List Blk -> Bool) -> Bool := fun a_ c_ => match a_ with
 | [.bool neg, .ints abs, .bool b] => SZ4 neg abs b (fun r0 => c_ (.ptr 0 0) [⟨126, 1, .cells [.bool r0, .roi .u64 abs]⟩])
 | _ => false
abbrev FZ4 (SZ4 : TSZ4) : Fs := mkFs shFZ4 (spZ4 SZ4)
def shFZ45 : FnSh := ⟨[.ptr 0 0, .int .u64], [some (126, 1, .cells [.bool, .nil])]⟩
def spZ45 (SZ45 : TSZ45) : List Atom -> (V -> List Blk -> Bool) -> Bool := fun a_ c_ => match a_ with
 | [.int n, .bool b] => SZ45 n b (fun r0 r1 => c_ (.ptr 0 0) [⟨126, 1, .cells [.bool r0, .roi .u64 r1]⟩])
 | _ => false
abbrev FZ45 (SZ45 : TSZ45) : Fs := mkFs shFZ45 (spZ45 SZ45)
def shFZ73 : FnSh := ⟨[.roi .u64], []⟩
def spZ73 (SZ73 : TSZ73) : List Atom -> (V -> List Blk -> Bool) -> Bool := fun a_ c_ => match a_ with
 | [.ints x] => SZ73 x (fun r0 => c_ (.roi .u64 r0) [])
 | _ => false
abbrev FZ73 (SZ73 : TSZ73) : Fs := mkFs shFZ73 (spZ73 SZ73)
def shFZ31 : FnSh := ⟨[.ptr 0 0, .bool, .roi .u64], [some (126, 1, .cells [.bool, .roi .u64])]⟩
def spZ31 (SZ31 : TSZ31) : List Atom -> (V -> List Blk -> Bool) -> Bool := fun a_ c_ => match a_ with
 | [.bool neg, .ints abs, .bool b, .ints b_1] => SZ31 neg abs b b_1 (fun r0 => c_ (.ptr 0 0) [⟨126, 1, .cells [.bool r0, .roi .u64 abs]⟩])
 | _ => false
abbrev FZ31 (SZ31 : TSZ31) : Fs := mkFs shFZ31 (spZ31 SZ31)
def shFZ25 : FnSh := ⟨[.ptr 0 0, .ptr 0 0], [some (126, 1, .cells [.bool, .roi .u64])]⟩
def spZ25 (SZ25 : TSZ25) : List Atom -> (V -> List Blk -> Bool) -> Bool := fun a_ c_ => match a_ with
 | [.bool b, .ints b_1] => SZ25 b b_1 (fun r0 r1 => c_ (.ptr 0 0) [⟨126, 1, .cells [.bool r0, .roi .u64 r1]⟩])
 | _ => false
abbrev FZ25 (SZ25 : TSZ25) : Fs := mkFs shFZ25 (spZ25 SZ25)
def shFZ135 : FnSh := ⟨[.flt], []⟩
def spZ135 (SZ135 : TSZ135) : List Atom -> (V -> List Blk -> Bool) -> Bool := fun a_ c_ => match a_ with
 | [.fl x] => SZ135 x (fun r0 r1 r2 => c_ (.agg [.ptr 0 0, .int .i64 r0]) [⟨126, 1, .cells [.bool r1, .roi .u64 r2]⟩])
 | _ => false
abbrev FZ135 (SZ135 : TSZ135) : Fs := mkFs shFZ135 (spZ135 SZ135)
def shFZ98 : FnSh := ⟨[.int .u64, .int .u64], []⟩
def spZ98 (SZ98 : TSZ98) : List Atom -> (V -> List Blk -> Bool) -> Bool := fun a_ c_ => match a_ with
 | [.int x, .int y] => SZ98 x y (fun r0 r1 => c_ (.tup [.int .u64 r0, .int .u64 r1]) [])
 | _ => false
abbrev FZ98 (SZ98 : TSZ98) : Fs := mkFs shFZ98 (spZ98 SZ98)
def shFZ65 : FnSh := ⟨[.int .u64, .int .u64, .int .u64], []⟩
def spZ65 (SZ65 : TSZ65) : List Atom -> (V -> List Blk -> Bool) -> Bool := fun a_ c_ => match a_ with
 | [.int a0, .int a1, .int a2] => SZ65 a0 a1 a2 (fun r0 r1 => c_ (.tup [.int .u64 r0, .int .u64 r1]) [])
 | _ => false
abbrev FZ65 (SZ65 : TSZ65) : Fs := mkFs shFZ65 (spZ65 SZ65)
def shFZ96 : FnSh := ⟨[.int .u64, .int .u64, .int .u64, .int .u64], []⟩
def spZ96 (SZ96 : TSZ96) : List Atom -> (V -> List Blk -> Bool) -> Bool := fun a_ c_ => match a_ with
 | [.int a, .int b, .int c, .int d] => SZ96 a b c d (fun r0 r1 => c_ (.tup [.int .u64 r0, .int .u64 r1]) [])
 | _ => false
abbrev FZ96 (SZ96 : TSZ96) : Fs := mkFs shFZ96 (spZ96 SZ96)
def shFZ121 : FnSh := ⟨[.roi .u64, .roi .u64], []⟩
def spZ121 (SZ121 : TSZ121) : List Atom -> (V -> List Blk -> Bool) -> Bool := fun a_ c_ => match a_ with
 | [.ints x, .ints y] => SZ121 x y (fun r0 => c_ (.roi .u64 r0) [])
 | _ => false
abbrev FZ121 (SZ121 : TSZ121) : Fs := mkFs shFZ121 (spZ121 SZ121)
def shFZ47 : FnSh := ⟨[.ptr 0 0, .ptr 1 0, .ptr 2 0], [some (126, 1, .cells [.bool, .nil]), some (126, 1, .cells [.bool, .roi .u64]), some (126, 1, .cells [.bool, .roi .u64])]⟩
def spZ47 (SZ47 : TSZ47) : List Atom -> (V -> List Blk -> Bool) -> Bool := fun a_ c_ => match a_ with
 | [.bool b, .bool b_1, .ints b_2, .bool b_3, .ints b_4] => SZ47 b b_1 b_2 b_3 b_4 (fun r0 r1 => c_ (.ptr 0 0) [⟨126, 1, .cells [.bool r0, .roi .u64 r1]⟩, ⟨126, 1, .cells [.bool b_1, .roi .u64 b_2]⟩, ⟨126, 1, .cells [.bool b_3, .roi .u64 b_4]⟩])
 | _ => false
abbrev FZ47 (SZ47 : TSZ47) : Fs := mkFs shFZ47 (spZ47 SZ47)
def shFZ17 : FnSh := ⟨[.agg [.ptr 0 0, .int .i64], .agg [.ptr 1 0, .int .i64]], [some (126, 1, .cells [.bool, .roi .u64]), some (126, 1, .cells [.bool, .roi .u64])]⟩
def spZ17 (SZ17 : TSZ17) : List Atom -> (V -> List Blk -> Bool) -> Bool := fun a_ c_ => match a_ with
 | [.int x, .int y, .bool b, .ints b_1, .bool b_2, .ints b_3] => SZ17 x y b b_1 b_2 b_3 (fun r0 r5 r6 => c_ (.agg [.ptr 2 0, .int .i64 r0]) [⟨126, 1, .cells [.bool b, .roi .u64 b_1]⟩, ⟨126, 1, .cells [.bool b_2, .roi .u64 b_3]⟩, ⟨126, 1, .cells [.bool r5, .roi .u64 r6]⟩])
 | _ => false
abbrev FZ17 (SZ17 : TSZ17) : Fs := mkFs shFZ17 (spZ17 SZ17)
def shFZ78 : FnSh := ⟨[.ptr 0 0], [some (126, 1, .cells [.bool, .nil])]⟩
def spZ78 (SZ78 : TSZ78) : List Atom -> (V -> List Blk -> Bool) -> Bool := fun a_ c_ => match a_ with
 | [.bool b] => SZ78 b (fun r0 r2 => c_ (.int .i64 r0) [⟨126, 1, .cells [.bool b, .roi .u64 r2]⟩])
 | _ => false
abbrev FZ78 (SZ78 : TSZ78) : Fs := mkFs shFZ78 (spZ78 SZ78)
def shFZ7 : FnSh := ⟨[.ptr 0 0], [some (126, 1, .cells [.bool, .roi .u64])]⟩
def spZ7 (SZ7 : TSZ7) : List Atom -> (V -> List Blk -> Bool) -> Bool := fun a_ c_ => match a_ with
 | [.bool b, .ints b_1] => SZ7 b b_1 (fun r0 => c_ (.int .i64 r0) [⟨126, 1, .cells [.bool b, .roi .u64 b_1]⟩])
 | _ => false
abbrev FZ7 (SZ7 : TSZ7) : Fs := mkFs shFZ7 (spZ7 SZ7)
def shFZ97 : FnSh := ⟨[.roi .u64, .int .u64], []⟩
def spZ97 (SZ97 : TSZ97) : List Atom -> (V -> List Blk -> Bool) -> Bool := fun a_ c_ => match a_ with
 | [.ints x, .int n] => SZ97 x n (fun r0 => c_ (.roi .u64 r0) [])
 | _ => false
abbrev FZ97 (SZ97 : TSZ97) : Fs := mkFs shFZ97 (spZ97 SZ97)
def shFZ60 : FnSh := ⟨[.ptr 0 0, .ptr 1 0, .int .u64], [some (126, 1, .cells [.bool, .nil]), some (126, 1, .cells [.bool, .roi .u64])]⟩
def spZ60 (SZ60 : TSZ60) : List Atom -> (V -> List Blk -> Bool) -> Bool := fun a_ c_ => match a_ with
 | [.int n, .bool b, .bool b_1, .ints b_2] => SZ60 n b b_1 b_2 (fun r0 r1 => c_ (.ptr 0 0) [⟨126, 1, .cells [.bool r0, .roi .u64 r1]⟩, ⟨126, 1, .cells [.bool b_1, .roi .u64 b_2]⟩])
 | _ => false
abbrev FZ60 (SZ60 : TSZ60) : Fs := mkFs shFZ60 (spZ60 SZ60)
def shFZ33 : FnSh := ⟨[.agg [.ptr 0 0, .int .i64], .int .i64], [some (126, 1, .cells [.bool, .roi .u64])]⟩
def spZ33 (SZ33 : TSZ33) : List Atom -> (V -> List Blk -> Bool) -> Bool := fun a_ c_ => match a_ with
 | [.int x, .int e, .bool b, .ints b_1] => SZ33 x e b b_1 (fun r2 r3 => c_ (.ptr 1 0) [⟨126, 1, .cells [.bool b, .roi .u64 b_1]⟩, ⟨126, 1, .cells [.bool r2, .roi .u64 r3]⟩])
 | _ => false
abbrev FZ33 (SZ33 : TSZ33) : Fs := mkFs shFZ33 (spZ33 SZ33)
def shFZ18 : FnSh := ⟨[.roi .u64, .int .i64], []⟩
def spZ18 (SZ18 : TSZ18) : List Atom -> (V -> List Blk -> Bool) -> Bool := fun a_ c_ => match a_ with
 | [.ints x, .int i] => SZ18 x i (fun r0 => c_ (.int .u64 r0) [])
 | _ => false
abbrev FZ18 (SZ18 : TSZ18) : Fs := mkFs shFZ18 (spZ18 SZ18)
def shFZ134 : FnSh := ⟨[.roi .u64, .roi .u64], []⟩
def spZ134 (SZ134 : TSZ134) : List Atom -> (V -> List Blk -> Bool) -> Bool := fun a_ c_ => match a_ with
 | [.ints x, .ints y] => SZ134 x y (fun r0 => c_ (.roi .u64 r0) [])
 | _ => false
abbrev FZ134 (SZ134 : TSZ134) : Fs := mkFs shFZ134 (spZ134 SZ134)
def shFZ102 : FnSh := ⟨[.roi .u64, .roi .u64], []⟩
def spZ102 (SZ102 : TSZ102) : List Atom -> (V -> List Blk -> Bool) -> Bool := fun a_ c_ => match a_ with
 | [.ints x, .ints y] => SZ102 x y (fun r0 => c_ (.int .i64 r0) [])
 | _ => false
abbrev FZ102 (SZ102 : TSZ102) : Fs := mkFs shFZ102 (spZ102 SZ102)
def shFZ91 : FnSh := ⟨[.int .u64, .int .u64, .int .u64], []⟩
def spZ91 (SZ91 : TSZ91) : List Atom -> (V -> List Blk -> Bool) -> Bool := fun a_ c_ => match a_ with
 | [.int a0, .int a1, .int a2] => SZ91 a0 a1 a2 (fun r0 r1 => c_ (.tup [.int .u64 r0, .int .u64 r1]) [])
 | _ => false
abbrev FZ91 (SZ91 : TSZ91) : Fs := mkFs shFZ91 (spZ91 SZ91)
def shFZ140 : FnSh := ⟨[.roi .u64, .roi .u64], []⟩
def spZ140 (SZ140 : TSZ140) : List Atom -> (V -> List Blk -> Bool) -> Bool := fun a_ c_ => match a_ with
 | [.ints x, .ints y] => SZ140 x y (fun r0 => c_ (.roi .u64 r0) [])
 | _ => false
abbrev FZ140 (SZ140 : TSZ140) : Fs := mkFs shFZ140 (spZ140 SZ140)
def shFZ56 : FnSh := ⟨[.ptr 0 0, .ptr 1 0, .bool, .roi .u64], [some (126, 1, .cells [.bool, .nil]), some (126, 1, .cells [.bool, .roi .u64])]⟩
def spZ56 (SZ56 : TSZ56) : List Atom -> (V -> List Blk -> Bool) -> Bool := fun a_ c_ => match a_ with
 | [.bool neg, .ints y, .bool b, .bool b_1, .ints b_2] => SZ56 neg y b b_1 b_2 (fun r0 r1 => c_ (.ptr 0 0) [⟨126, 1, .cells [.bool r0, .roi .u64 r1]⟩, ⟨126, 1, .cells [.bool b_1, .roi .u64 b_2]⟩])
 | _ => false
abbrev FZ56 (SZ56 : TSZ56) : Fs := mkFs shFZ56 (spZ56 SZ56)
def shFZ26 : FnSh := ⟨[.ptr 0 0, .ptr 1 0, .ptr 2 0], [some (126, 1, .cells [.bool, .nil]), some (126, 1, .cells [.bool, .roi .u64]), some (126, 1, .cells [.bool, .roi .u64])]⟩
def spZ26 (SZ26 : TSZ26) : List Atom -> (V -> List Blk -> Bool) -> Bool := fun a_ c_ => match a_ with
 | [.bool b, .bool b_1, .ints b_2, .bool b_3, .ints b_4] => SZ26 b b_1 b_2 b_3 b_4 (fun r0 r1 => c_ (.ptr 0 0) [⟨126, 1, .cells [.bool r0, .roi .u64 r1]⟩, ⟨126, 1, .cells [.bool b_1, .roi .u64 b_2]⟩, ⟨126, 1, .cells [.bool b_3, .roi .u64 b_4]⟩])
 | _ => false
abbrev FZ26 (SZ26 : TSZ26) : Fs := mkFs shFZ26 (spZ26 SZ26)
def shFZ21 : FnSh := ⟨[.agg [.ptr 0 0, .int .i64], .agg [.ptr 1 0, .int .i64]], [some (126, 1, .cells [.bool, .nil]), some (126, 1, .cells [.bool, .roi .u64])]⟩
def spZ21 (SZ21 : TSZ21) : List Atom -> (V -> List Blk -> Bool) -> Bool := fun a_ c_ => match a_ with
 | [.int x, .int y, .bool b, .bool b_1, .ints b_2] => SZ21 x y b b_1 b_2 (fun r2 => c_ (.agg [.ptr 1 0, .int .i64 y]) [⟨126, 1, .cells [.bool b, .roi .u64 r2]⟩, ⟨126, 1, .cells [.bool b_1, .roi .u64 b_2]⟩]) (fun r2 => c_ (.agg [.ptr 0 0, .int .i64 x]) [⟨126, 1, .cells [.bool b, .roi .u64 r2]⟩, ⟨126, 1, .cells [.bool b_1, .roi .u64 b_2]⟩]) (fun r0 r2 r5 r6 => c_ (.agg [.ptr 2 0, .int .i64 r0]) [⟨126, 1, .cells [.bool b, .roi .u64 r2]⟩, ⟨126, 1, .cells [.bool b_1, .roi .u64 b_2]⟩, ⟨126, 1, .cells [.bool r5, .roi .u64 r6]⟩])
 | _ => false
abbrev FZ21 (SZ21 : TSZ21) : Fs := mkFs shFZ21 (spZ21 SZ21)
def shFZ8 : FnSh := ⟨[.agg [.ptr 0 0, .int .i64], .agg [.ptr 1 0, .int .i64]], [some (126, 1, .cells [.bool, .roi .u64]), some (126, 1, .cells [.bool, .roi .u64])]⟩
def spZ8 (SZ8 : TSZ8) : List Atom -> (V -> List Blk -> Bool) -> Bool := fun a_ c_ => match a_ with
 | [.int x, .int y, .bool b, .ints b_1, .bool b_2, .ints b_3] => SZ8 x y b b_1 b_2 b_3 (c_ (.agg [.ptr 1 0, .int .i64 y]) [⟨126, 1, .cells [.bool b, .roi .u64 b_1]⟩, ⟨126, 1, .cells [.bool b_2, .roi .u64 b_3]⟩]) (c_ (.agg [.ptr 0 0, .int .i64 x]) [⟨126, 1, .cells [.bool b, .roi .u64 b_1]⟩, ⟨126, 1, .cells [.bool b_2, .roi .u64 b_3]⟩]) (fun r0 r5 r6 => c_ (.agg [.ptr 2 0, .int .i64 r0]) [⟨126, 1, .cells [.bool b, .roi .u64 b_1]⟩, ⟨126, 1, .cells [.bool b_2, .roi .u64 b_3]⟩, ⟨126, 1, .cells [.bool r5, .roi .u64 r6]⟩])
 | _ => false
abbrev FZ8 (SZ8 : TSZ8) : Fs := mkFs shFZ8 (spZ8 SZ8)
def shFZ34 : FnSh := ⟨[.ptr 0 0, .ptr 1 0], [some (126, 1, .cells [.bool, .nil]), some (126, 1, .cells [.bool, .roi .u64])]⟩
def spZ34 (SZ34 : TSZ34) : List Atom -> (V -> List Blk -> Bool) -> Bool := fun a_ c_ => match a_ with
 | [.bool b, .bool b_1, .ints b_2] => SZ34 b b_1 b_2 (fun r0 r1 => c_ (.ptr 0 0) [⟨126, 1, .cells [.bool r0, .roi .u64 r1]⟩, ⟨126, 1, .cells [.bool b_1, .roi .u64 b_2]⟩])
 | _ => false
abbrev FZ34 (SZ34 : TSZ34) : Fs := mkFs shFZ34 (spZ34 SZ34)
def shFZ49 : FnSh := ⟨[.ptr 0 0, .int .i64], [some (126, 1, .cells [.bool, .roi .u64])]⟩
def spZ49 (SZ49 : TSZ49) : List Atom -> (V -> List Blk -> Bool) -> Bool := fun a_ c_ => match a_ with
 | [.int i, .bool b, .ints b_1] => SZ49 i b b_1 (fun r0 => c_ (.int .u64 r0) [⟨126, 1, .cells [.bool b, .roi .u64 b_1]⟩])
 | _ => false
abbrev FZ49 (SZ49 : TSZ49) : Fs := mkFs shFZ49 (spZ49 SZ49)
def shFZ11 : FnSh := ⟨[.ptr 0 0], [some (126, 1, .cells [.bool, .roi .u64])]⟩
def spZ11 (SZ11 : TSZ11) : List Atom -> (V -> List Blk -> Bool) -> Bool := fun a_ c_ => match a_ with
 | [.bool b, .ints b_1] => SZ11 b b_1 (fun r0 => c_ (.int .u64 r0) [⟨126, 1, .cells [.bool b, .roi .u64 b_1]⟩])
 | _ => false
abbrev FZ11 (SZ11 : TSZ11) : Fs := mkFs shFZ11 (spZ11 SZ11)
def shFZ117 : FnSh := ⟨[.roi .u64, .int .u64], []⟩
def spZ117 (SZ117 : TSZ117) : List Atom -> (V -> List Blk -> Bool) -> Bool := fun a_ c_ => match a_ with
 | [.ints x, .int n] => SZ117 x n (fun r0 r1 => c_ (.tup [.roi .u64 r0, .bool r1]) [])
 | _ => false
abbrev FZ117 (SZ117 : TSZ117) : Fs := mkFs shFZ117 (spZ117 SZ117)
def shFZ16 : FnSh := ⟨[.ptr 0 0, .ptr 0 0, .int .u64], [some (126, 1, .cells [.bool, .roi .u64])]⟩
def spZ16 (SZ16 : TSZ16) : List Atom -> (V -> List Blk -> Bool) -> Bool := fun a_ c_ => match a_ with
 | [.int n, .bool b, .ints b_1] => SZ16 n b b_1 (fun r0 r1 => c_ (.ptr 0 0) [⟨126, 1, .cells [.bool r0, .roi .u64 r1]⟩])
 | _ => false
abbrev FZ16 (SZ16 : TSZ16) : Fs := mkFs shFZ16 (spZ16 SZ16)
def shFZ22 : FnSh := ⟨[.agg [.ptr 0 0, .int .i64]], [some (126, 1, .cells [.bool, .roi .u64])]⟩
def spZ22 (SZ22 : TSZ22) : List Atom -> (V -> List Blk -> Bool) -> Bool := fun a_ c_ => match a_ with
 | [.int x, .bool b, .ints b_1] => SZ22 x b b_1 (fun r0 r3 r4 => c_ (.agg [.ptr 1 0, .int .i64 r0]) [⟨126, 1, .cells [.bool b, .roi .u64 b_1]⟩, ⟨126, 1, .cells [.bool r3, .roi .u64 r4]⟩])
 | _ => false
abbrev FZ22 (SZ22 : TSZ22) : Fs := mkFs shFZ22 (spZ22 SZ22)
def shFZ90 : FnSh := ⟨[.int .u64], []⟩
def spZ90 (SZ90 : TSZ90) : List Atom -> (V -> List Blk -> Bool) -> Bool := fun a_ c_ => match a_ with
 | [.int x] => SZ90 x (fun r0 => c_ (.int .i64 r0) [])
 | _ => false
abbrev FZ90 (SZ90 : TSZ90) : Fs := mkFs shFZ90 (spZ90 SZ90)
def shFZ119 : FnSh := ⟨[.roi .u64], []⟩
def spZ119 (SZ119 : TSZ119) : List Atom -> (V -> List Blk -> Bool) -> Bool := fun a_ c_ => match a_ with
 | [.ints x] => SZ119 x (fun r0 => c_ (.int .i64 r0) [])
 | _ => false
abbrev FZ119 (SZ119 : TSZ119) : Fs := mkFs shFZ119 (spZ119 SZ119)
def shFZ36 : FnSh := ⟨[.ptr 0 0], [some (126, 1, .cells [.bool, .roi .u64])]⟩
def spZ36 (SZ36 : TSZ36) : List Atom -> (V -> List Blk -> Bool) -> Bool := fun a_ c_ => match a_ with
 | [.bool b, .ints b_1] => SZ36 b b_1 (fun r0 => c_ (.int .i64 r0) [⟨126, 1, .cells [.bool b, .roi .u64 b_1]⟩])
 | _ => false
abbrev FZ36 (SZ36 : TSZ36) : Fs := mkFs shFZ36 (spZ36 SZ36)
def shFZ53 : FnSh := ⟨[.ptr 0 0, .int .i64], [some (126, 1, .cells [.bool, .nil])]⟩
def spZ53 (SZ53 : TSZ53) : List Atom -> (V -> List Blk -> Bool) -> Bool := fun a_ c_ => match a_ with
 | [.int n, .bool b] => SZ53 n b (fun r0 r1 => c_ (.ptr 0 0) [⟨126, 1, .cells [.bool r0, .roi .u64 r1]⟩])
 | _ => false
abbrev FZ53 (SZ53 : TSZ53) : Fs := mkFs shFZ53 (spZ53 SZ53)
def shFZ55 : FnSh := ⟨[.int .i64], []⟩
def spZ55 (SZ55 : TSZ55) : List Atom -> (V -> List Blk -> Bool) -> Bool := fun a_ c_ => match a_ with
 | [.int n] => SZ55 n (fun r0 r1 => c_ (.ptr 0 0) [⟨126, 1, .cells [.bool r0, .roi .u64 r1]⟩])
 | _ => false
abbrev FZ55 (SZ55 : TSZ55) : Fs := mkFs shFZ55 (spZ55 SZ55)
def shFZ35 : FnSh := ⟨[.ptr 0 0, .ptr 1 0], [some (126, 1, .cells [.bool, .nil]), some (126, 1, .cells [.bool, .roi .u64])]⟩
def spZ35 (SZ35 : TSZ35) : List Atom -> (V -> List Blk -> Bool) -> Bool := fun a_ c_ => match a_ with
 | [.bool b, .bool b_1, .ints b_2] => SZ35 b b_1 b_2 (fun r0 r1 => c_ (.ptr 0 0) [⟨126, 1, .cells [.bool r0, .roi .u64 r1]⟩, ⟨126, 1, .cells [.bool b_1, .roi .u64 b_2]⟩])
 | _ => false
abbrev FZ35 (SZ35 : TSZ35) : Fs := mkFs shFZ35 (spZ35 SZ35)
def shFZ40 : FnSh := ⟨[.ptr 0 0, .bool, .sl 1], [some (126, 1, .cells [.bool, .nil]), some (22, 1, .ints .u64)]⟩
def spZ40 (SZ40 : TSZ40) : List Atom -> (V -> List Blk -> Bool) -> Bool := fun a_ c_ => match a_ with
 | [.bool neg, .nat abs_0, .nat abs_1, .bool b, .ints b_1] => SZ40 neg abs_0 abs_1 b b_1 (fun r0 => c_ (.ptr 0 0) [⟨126, 1, .cells [.bool r0, .sl 1 abs_0 abs_1]⟩, ⟨22, 1, .ints .u64 b_1⟩])
 | _ => false
abbrev FZ40 (SZ40 : TSZ40) : Fs := mkFs shFZ40 (spZ40 SZ40)
def shFZ24 : FnSh := ⟨[.ptr 0 0, .ptr 1 0, .ptr 2 0], [some (126, 1, .cells [.bool, .nil]), some (126, 1, .cells [.bool, .roi .u64]), some (126, 1, .cells [.bool, .roi .u64])]⟩
def spZ24 (SZ24 : TSZ24) : List Atom -> (V -> List Blk -> Bool) -> Bool := fun a_ c_ => match a_ with
 | [.bool b, .bool b_1, .ints b_2, .bool b_3, .ints b_4] => SZ24 b b_1 b_2 b_3 b_4 (fun r0 r1 => c_ (.ptr 0 0) [⟨126, 1, .cells [.bool r0, .roi .u64 r1]⟩, ⟨126, 1, .cells [.bool b_1, .roi .u64 b_2]⟩, ⟨126, 1, .cells [.bool b_3, .roi .u64 b_4]⟩])
 | _ => false
abbrev FZ24 (SZ24 : TSZ24) : Fs := mkFs shFZ24 (spZ24 SZ24)
def shFZ151 : FnSh := ⟨[.roi .u64], []⟩
def spZ151 (SZ151 : TSZ151) : List Atom -> (V -> List Blk -> Bool) -> Bool := fun a_ c_ => match a_ with
 | [.ints x] => SZ151 x (fun r0 => c_ (.int .u64 r0) [])
 | _ => false
abbrev FZ151 (SZ151 : TSZ151) : Fs := mkFs shFZ151 (spZ151 SZ151)
def shFZ37 : FnSh := ⟨[.ptr 0 0], [some (126, 1, .cells [.bool, .roi .u64])]⟩
def spZ37 (SZ37 : TSZ37) : List Atom -> (V -> List Blk -> Bool) -> Bool := fun a_ c_ => match a_ with
 | [.bool b, .ints b_1] => SZ37 b b_1 (fun r0 => c_ (.int .u64 r0) [⟨126, 1, .cells [.bool b, .roi .u64 b_1]⟩])
 | _ => false
abbrev FZ37 (SZ37 : TSZ37) : Fs := mkFs shFZ37 (spZ37 SZ37)
def shFZ12 : FnSh := ⟨[.agg [.ptr 0 0, .int .i64]], [some (126, 1, .cells [.bool, .roi .u64])]⟩
def spZ12 (SZ12 : TSZ12) : List Atom -> (V -> List Blk -> Bool) -> Bool := fun a_ c_ => match a_ with
 | [.int x, .bool b, .ints b_1] => SZ12 x b b_1 (fun r0 r1 r2 => c_ (.tup [.agg [.bool r0, .nil, .int .i64 r1], .int .i64 r2]) [⟨126, 1, .cells [.bool b, .roi .u64 b_1]⟩]) (fun r0 r1 r2 r5 => c_ (.tup [.agg [.bool r0, .slw 1, .int .i64 r1], .int .i64 r2]) [⟨126, 1, .cells [.bool b, .roi .u64 b_1]⟩, ⟨87, 1, .ints .u32 r5⟩])
 | _ => false
abbrev FZ12 (SZ12 : TSZ12) : Fs := mkFs shFZ12 (spZ12 SZ12)
def shFZ83 : FnSh := ⟨[.rof, .rof], []⟩
def spZ83 (SZ83 : TSZ83) : List Atom -> (V -> List Blk -> Bool) -> Bool := fun a_ c_ => match a_ with
 | [.fls a, .fls b] => SZ83 a b (fun r0 r1 r2 => c_ (.tup [.agg [.bool r0, .nil, .int .i64 r1], .int .i64 r2]) []) (fun r0 r1 r2 r3 => c_ (.tup [.agg [.bool r0, .slw 0, .int .i64 r1], .int .i64 r2]) [⟨87, 1, .ints .u32 r3⟩])
 | _ => false
abbrev FZ83 (SZ83 : TSZ83) : Fs := mkFs shFZ83 (spZ83 SZ83)
def shFZ113 : FnSh := ⟨[.agg [.bool, .roi .u32, .int .i64]], []⟩
def spZ113 (SZ113 : TSZ113) : List Atom -> (V -> List Blk -> Bool) -> Bool := fun a_ c_ => match a_ with
 | [.bool d_0, .ints d_1, .int d_2] => SZ113 d_0 d_1 d_2 (fun r0 => c_ (.bool r0) [])
 | _ => false
abbrev FZ113 (SZ113 : TSZ113) : Fs := mkFs shFZ113 (spZ113 SZ113)
def shFZ42 : FnSh := ⟨[.ptr 0 0, .ptr 0 0, .int .u64], [some (126, 1, .cells [.bool, .nil])]⟩
def spZ42 (SZ42 : TSZ42) : List Atom -> (V -> List Blk -> Bool) -> Bool := fun a_ c_ => match a_ with
 | [.int n, .bool b] => SZ42 n b (fun r0 r1 => c_ (.ptr 0 0) [⟨126, 1, .cells [.bool r0, .roi .u64 r1]⟩])
 | _ => false
abbrev FZ42 (SZ42 : TSZ42) : Fs := mkFs shFZ42 (spZ42 SZ42)
def shFZ41 : FnSh := ⟨[.ptr 0 0, .bool, .sl 1], [some (126, 1, .cells [.bool, .roi .u64]), some (22, 1, .ints .u64)]⟩
def spZ41 (SZ41 : TSZ41) : List Atom -> (V -> List Blk -> Bool) -> Bool := fun a_ c_ => match a_ with
 | [.bool neg, .nat abs_0, .nat abs_1, .bool b, .ints b_1, .ints b_2] => SZ41 neg abs_0 abs_1 b b_1 b_2 (fun r0 => c_ (.ptr 0 0) [⟨126, 1, .cells [.bool r0, .sl 1 abs_0 abs_1]⟩, ⟨22, 1, .ints .u64 b_2⟩])
 | _ => false
abbrev FZ41 (SZ41 : TSZ41) : Fs := mkFs shFZ41 (spZ41 SZ41)
def shFZ30 : FnSh := ⟨[.ptr 0 0, .ptr 0 0, .ptr 1 0], [some (126, 1, .cells [.bool, .roi .u64]), some (126, 1, .cells [.bool, .roi .u64])]⟩
def spZ30 (SZ30 : TSZ30) : List Atom -> (V -> List Blk -> Bool) -> Bool := fun a_ c_ => match a_ with
 | [.bool b, .ints b_1, .bool b_2, .ints b_3] => SZ30 b b_1 b_2 b_3 (fun r0 r1 => c_ (.ptr 0 0) [⟨126, 1, .cells [.bool r0, .roi .u64 r1]⟩, ⟨126, 1, .cells [.bool b_2, .roi .u64 b_3]⟩])
 | _ => false
abbrev FZ30 (SZ30 : TSZ30) : Fs := mkFs shFZ30 (spZ30 SZ30)
def shFZ43 : FnSh := ⟨[.ptr 0 0, .ptr 0 0, .int .u64], [some (126, 1, .cells [.bool, .roi .u64])]⟩
def spZ43 (SZ43 : TSZ43) : List Atom -> (V -> List Blk -> Bool) -> Bool := fun a_ c_ => match a_ with
 | [.int n, .bool b, .ints b_1] => SZ43 n b b_1 (fun r0 r1 => c_ (.ptr 0 0) [⟨126, 1, .cells [.bool r0, .roi .u64 r1]⟩])
 | _ => false
abbrev FZ43 (SZ43 : TSZ43) : Fs := mkFs shFZ43 (spZ43 SZ43)
def shFZ100 : FnSh := ⟨[.agg [.bool, .roi .u32, .int .i64]], []⟩
def spZ100 (SZ100 : TSZ100) : List Atom -> (V -> List Blk -> Bool) -> Bool := fun a_ c_ => match a_ with
 | [.bool d_0, .ints d_1, .int d_2] => SZ100 d_0 d_1 d_2 (fun r1 r2 => c_ (.agg [.ptr 0 0, .int .i64 d_2]) [⟨126, 1, .cells [.bool r1, .roi .u64 r2]⟩])
 | _ => false
abbrev FZ100 (SZ100 : TSZ100) : Fs := mkFs shFZ100 (spZ100 SZ100)
def shFZ39 : FnSh := ⟨[.ptr 0 0, .ptr 1 0], [some (126, 1, .cells [.bool, .nil]), some (126, 1, .cells [.bool, .roi .u64])]⟩
def spZ39 (SZ39 : TSZ39) : List Atom -> (V -> List Blk -> Bool) -> Bool := fun a_ c_ => match a_ with
 | [.bool b, .bool b_1, .ints b_2] => SZ39 b b_1 b_2 (fun r0 r1 => c_ (.ptr 0 0) [⟨126, 1, .cells [.bool r0, .roi .u64 r1]⟩, ⟨126, 1, .cells [.bool b_1, .roi .u64 b_2]⟩])
 | _ => false
abbrev FZ39 (SZ39 : TSZ39) : Fs := mkFs shFZ39 (spZ39 SZ39)
def shFZ67 : FnSh := ⟨[.agg [.ptr 0 0, .int .i64], .agg [.ptr 1 0, .int .i64]], [some (126, 1, .cells [.bool, .roi .u64]), some (126, 1, .cells [.bool, .roi .u64])]⟩
def spZ67 (SZ67 : TSZ67) : List Atom -> (V -> List Blk -> Bool) -> Bool := fun a_ c_ => match a_ with
 | [.int x, .int y, .bool b, .ints b_1, .bool b_2, .ints b_3] => SZ67 x y b b_1 b_2 b_3 (fun r0 r5 r6 => c_ (.agg [.ptr 2 0, .int .i64 r0]) [⟨126, 1, .cells [.bool b, .roi .u64 b_1]⟩, ⟨126, 1, .cells [.bool b_2, .roi .u64 b_3]⟩, ⟨126, 1, .cells [.bool r5, .roi .u64 r6]⟩]) (c_ (.agg [.ptr 0 0, .int .i64 x]) [⟨126, 1, .cells [.bool b, .roi .u64 b_1]⟩, ⟨126, 1, .cells [.bool b_2, .roi .u64 b_3]⟩])
 | _ => false
abbrev FZ67 (SZ67 : TSZ67) : Fs := mkFs shFZ67 (spZ67 SZ67)
def shFZ109 : FnSh := ⟨[.agg [.bool, .roi .u32, .int .i64], .agg [.bool, .roi .u32, .int .i64], .fn 90 []], []⟩
def spZ109 (SZ109 : TSZ109) : List Atom -> (V -> List Blk -> Bool) -> Bool := fun a_ c_ => match a_ with
 | [.bool a_0, .ints a_1, .int a_2, .bool b_0, .ints b_1, .int b_2] => SZ109 a_0 a_1 a_2 b_0 b_1 b_2 (fun r0 r1 r2 => c_ (.tup [.agg [.bool r0, .nil, .int .i64 r1], .int .i64 r2]) []) (fun r0 r1 r2 r3 => c_ (.tup [.agg [.bool r0, .slw 0, .int .i64 r1], .int .i64 r2]) [⟨87, 1, .ints .u32 r3⟩])
 | _ => false
abbrev FZ109 (SZ109 : TSZ109) : Fs := mkFs shFZ109 (spZ109 SZ109)
def shFZ84 : FnSh := ⟨[.agg [.bool, .roi .u32, .int .i64], .agg [.bool, .roi .u32, .int .i64]], []⟩
def spZ84 (SZ84 : TSZ84) : List Atom -> (V -> List Blk -> Bool) -> Bool := fun a_ c_ => match a_ with
 | [.bool a_0, .ints a_1, .int a_2, .bool b_0, .ints b_1, .int b_2] => SZ84 a_0 a_1 a_2 b_0 b_1 b_2 (fun r0 r1 r2 => c_ (.tup [.agg [.bool r0, .nil, .int .i64 r1], .int .i64 r2]) []) (fun r0 r1 r2 r3 => c_ (.tup [.agg [.bool r0, .slw 0, .int .i64 r1], .int .i64 r2]) [⟨87, 1, .ints .u32 r3⟩])
 | _ => false
abbrev FZ84 (SZ84 : TSZ84) : Fs := mkFs shFZ84 (spZ84 SZ84)
def shFZ38 : FnSh := ⟨[.agg [.bool, .roi .u32, .int .i64], .agg [.bool, .roi .u32, .int .i64]], []⟩
def spZ38 (SZ38 : TSZ38) : List Atom -> (V -> List Blk -> Bool) -> Bool := fun a_ c_ => match a_ with
 | [.bool a_0, .ints a_1, .int a_2, .bool b_0, .ints b_1, .int b_2] => SZ38 a_0 a_1 a_2 b_0 b_1 b_2 (fun r0 r1 => c_ (.tup [.int .i64 r0, .int .i64 r1]) [])
 | _ => false
abbrev FZ38 (SZ38 : TSZ38) : Fs := mkFs shFZ38 (spZ38 SZ38)
def shFZ54 : FnSh := ⟨[.agg [.flt, .flt, .flt, .flt]], []⟩
def spZ54 (SZ54 : TSZ54) : List Atom -> (V -> List Blk -> Bool) -> Bool := fun a_ c_ => match a_ with
 | [.fl q_0, .fl q_1, .fl q_2, .fl q_3] => SZ54 q_0 q_1 q_2 q_3 (fun r0 => c_ (.bool r0) [])
 | _ => false
abbrev FZ54 (SZ54 : TSZ54) : Fs := mkFs shFZ54 (spZ54 SZ54)
def shFZ81 : FnSh := ⟨[], []⟩
def spZ81 (SZ81 : TSZ81) : List Atom -> (V -> List Blk -> Bool) -> Bool := fun a_ c_ => match a_ with
 | [] => SZ81 (fun r0 r1 r2 r3 => c_ (.agg [.flt r0, .flt r1, .flt r2, .flt r3]) [])
 | _ => false
abbrev FZ81 (SZ81 : TSZ81) : Fs := mkFs shFZ81 (spZ81 SZ81)
def shFZ19 : FnSh := ⟨[], []⟩
def spZ19 (SZ19 : TSZ19) : List Atom -> (V -> List Blk -> Bool) -> Bool := fun a_ c_ => match a_ with
 | [] => SZ19 (fun r0 => c_ (.bool r0) [])
 | _ => false
abbrev FZ19 (SZ19 : TSZ19) : Fs := mkFs shFZ19 (spZ19 SZ19)
def shFZ50 : FnSh := ⟨[.int .u64], []⟩
def spZ50 (SZ50 : TSZ50) : List Atom -> (V -> List Blk -> Bool) -> Bool := fun a_ c_ => match a_ with
 | [.int b] => SZ50 b (fun r0 => c_ (.flt r0) [])
 | _ => false
abbrev FZ50 (SZ50 : TSZ50) : Fs := mkFs shFZ50 (spZ50 SZ50)
def shFZ15 : FnSh := ⟨[.agg [.int .u64, .int .u64, .int .u64, .int .u64]], []⟩
def spZ15 (SZ15 : TSZ15) : List Atom -> (V -> List Blk -> Bool) -> Bool := fun a_ c_ => match a_ with
 | [.int q_0, .int q_1, .int q_2, .int q_3] => SZ15 q_0 q_1 q_2 q_3 (fun r0 r1 r2 r3 => c_ (.agg [.flt r0, .flt r1, .flt r2, .flt r3]) [])
 | _ => false
abbrev FZ15 (SZ15 : TSZ15) : Fs := mkFs shFZ15 (spZ15 SZ15)
def shFZ20 : FnSh := ⟨[.agg [.int .u64, .int .u64, .int .u64]], []⟩
def spZ20 (SZ20 : TSZ20) : List Atom -> (V -> List Blk -> Bool) -> Bool := fun a_ c_ => match a_ with
 | [.int v_0, .int v_1, .int v_2] => SZ20 v_0 v_1 v_2 (fun r0 r1 r2 => c_ (.agg [.flt r0, .flt r1, .flt r2]) [])
 | _ => false
abbrev FZ20 (SZ20 : TSZ20) : Fs := mkFs shFZ20 (spZ20 SZ20)
def shFZ58 : FnSh := ⟨[.agg [.flt, .flt, .flt, .flt]], []⟩
def spZ58 (SZ58 : TSZ58) : List Atom -> (V -> List Blk -> Bool) -> Bool := fun a_ c_ => match a_ with
 | [.fl q_0, .fl q_1, .fl q_2, .fl q_3] => SZ58 q_0 q_1 q_2 q_3 (fun r0 r1 r2 => c_ (.tup [.agg [.int .i64 r0, .int .i64 r1, .nil], .int .i64 r2]) []) (fun r0 r1 r2 r3 => c_ (.tup [.agg [.int .i64 r0, .int .i64 r1, .slw 0], .int .i64 r2]) [⟨28, 1, .flts r3⟩])
 | _ => false
abbrev FZ58 (SZ58 : TSZ58) : Fs := mkFs shFZ58 (spZ58 SZ58)
def shFZ107 : FnSh := ⟨[.int .i64], []⟩
def spZ107 (SZ107 : TSZ107) : List Atom -> (V -> List Blk -> Bool) -> Bool := fun a_ c_ => match a_ with
 | [.int n] => SZ107 n (fun r0 => c_ (.bool r0) [])
 | _ => false
abbrev FZ107 (SZ107 : TSZ107) : Fs := mkFs shFZ107 (spZ107 SZ107)
def shFZ72 : FnSh := ⟨[.agg [.int .i64, .int .i64, .rof]], []⟩
def spZ72 (SZ72 : TSZ72) : List Atom -> (V -> List Blk -> Bool) -> Bool := fun a_ c_ => match a_ with
 | [.int m_0, .int m_1, .fls m_2] => SZ72 m_0 m_1 m_2 (fun r0 => c_ (.int .i64 r0) [])
 | _ => false
abbrev FZ72 (SZ72 : TSZ72) : Fs := mkFs shFZ72 (spZ72 SZ72)
def shFZ27 : FnSh := ⟨[.int .i64, .int .i64, .ptr 0 0], [some (55, 1, .cells [.int .i64, .int .i64, .rof])]⟩
def spZ27 (SZ27 : TSZ27) : List Atom -> (V -> List Blk -> Bool) -> Bool := fun a_ c_ => match a_ with
 | [.int i, .int j, .int b, .int b_1, .fls b_2] => SZ27 i j b b_1 b_2 (fun r0 => c_ (.flt r0) [⟨55, 1, .cells [.int .i64 b, .int .i64 b_1, .rof b_2]⟩])
 | _ => false
abbrev FZ27 (SZ27 : TSZ27) : Fs := mkFs shFZ27 (spZ27 SZ27)
def shFZ77 : FnSh := ⟨[.agg [.int .i64, .int .i64, .rof]], []⟩
def spZ77 (SZ77 : TSZ77) : List Atom -> (V -> List Blk -> Bool) -> Bool := fun a_ c_ => match a_ with
 | [.int m_0, .int m_1, .fls m_2] => SZ77 m_0 m_1 m_2 (fun r0 r1 r2 r3 r4 => c_ (.tup [.agg [.flt r0, .flt r1, .flt r2, .flt r3], .int .i64 r4]) [])
 | _ => false
abbrev FZ77 (SZ77 : TSZ77) : Fs := mkFs shFZ77 (spZ77 SZ77)
def shFZ132 : FnSh := ⟨[.agg [.flt, .flt, .flt, .flt]], []⟩
def spZ132 (SZ132 : TSZ132) : List Atom -> (V -> List Blk -> Bool) -> Bool := fun a_ c_ => match a_ with
 | [.fl q_0, .fl q_1, .fl q_2, .fl q_3] => SZ132 q_0 q_1 q_2 q_3 (fun r0 r1 r2 r3 r4 => c_ (.tup [.agg [.flt r0, .flt r1, .flt r2, .flt r3], .int .i64 r4]) [])
 | _ => false
abbrev FZ132 (SZ132 : TSZ132) : Fs := mkFs shFZ132 (spZ132 SZ132)
def shFZ149 : FnSh := ⟨[.rof], []⟩
def spZ149 (SZ149 : TSZ149) : List Atom -> (V -> List Blk -> Bool) -> Bool := fun a_ c_ => match a_ with
 | [.fls x] => SZ149 x (fun r0 => c_ (.int .i64 r0) [])
 | _ => false
abbrev FZ149 (SZ149 : TSZ149) : Fs := mkFs shFZ149 (spZ149 SZ149)
def shFZ136 : FnSh := ⟨[.rof], []⟩
def spZ136 (SZ136 : TSZ136) : List Atom -> (V -> List Blk -> Bool) -> Bool := fun a_ c_ => match a_ with
 | [.fls x] => SZ136 x (fun r0 r1 => c_ (.tup [.int .i64 r0, .bool r1]) [])
 | _ => false
abbrev FZ136 (SZ136 : TSZ136) : Fs := mkFs shFZ136 (spZ136 SZ136)
def shFZ124 : FnSh := ⟨[.rof, .int .i64], []⟩
def spZ124 (SZ124 : TSZ124) : List Atom -> (V -> List Blk -> Bool) -> Bool := fun a_ c_ => match a_ with
 | [.fls x, .int k_] => SZ124 x k_ (fun r0 r1 => c_ (.tup [.slw 0, .flt r0]) [⟨28, 1, .flts r1⟩])
 | _ => false
abbrev FZ124 (SZ124 : TSZ124) : Fs := mkFs shFZ124 (spZ124 SZ124)
def shFZ123 : FnSh := ⟨[.rof], []⟩
def spZ123 (SZ123 : TSZ123) : List Atom -> (V -> List Blk -> Bool) -> Bool := fun a_ c_ => match a_ with
 | [.fls x] => SZ123 x (fun r0 => c_ (.flt r0) [])
 | _ => false
abbrev FZ123 (SZ123 : TSZ123) : Fs := mkFs shFZ123 (spZ123 SZ123)
def shFZ130 : FnSh := ⟨[.flt], []⟩
def spZ130 (SZ130 : TSZ130) : List Atom -> (V -> List Blk -> Bool) -> Bool := fun a_ c_ => match a_ with
 | [.fl x] => SZ130 x (fun r0 => c_ (.bool r0) [])
 | _ => false
abbrev FZ130 (SZ130 : TSZ130) : Fs := mkFs shFZ130 (spZ130 SZ130)
def shFZ120 : FnSh := ⟨[.rof], []⟩
def spZ120 (SZ120 : TSZ120) : List Atom -> (V -> List Blk -> Bool) -> Bool := fun a_ c_ => match a_ with
 | [.fls x] => SZ120 x (fun r0 r1 => c_ (.tup [.flt r0, .int .i64 r1]) [])
 | _ => false
abbrev FZ120 (SZ120 : TSZ120) : Fs := mkFs shFZ120 (spZ120 SZ120)
def shFZ68 : FnSh := ⟨[.agg [.flt, .flt, .flt, .flt], .agg [.flt, .flt, .flt, .flt]], []⟩
def spZ68 (SZ68 : TSZ68) : List Atom -> (V -> List Blk -> Bool) -> Bool := fun a_ c_ => match a_ with
 | [.fl a_0, .fl a_1, .fl a_2, .fl a_3, .fl b_0, .fl b_1, .fl b_2, .fl b_3] => SZ68 a_0 a_1 a_2 a_3 b_0 b_1 b_2 b_3 (fun r0 r1 => c_ (.tup [.flt r0, .int .i64 r1]) [])
 | _ => false
abbrev FZ68 (SZ68 : TSZ68) : Fs := mkFs shFZ68 (spZ68 SZ68)
def shFZ23 : FnSh := ⟨[.agg [.flt, .flt, .flt]], []⟩
def spZ23 (SZ23 : TSZ23) : List Atom -> (V -> List Blk -> Bool) -> Bool := fun a_ c_ => match a_ with
 | [.fl v_0, .fl v_1, .fl v_2] => SZ23 v_0 v_1 v_2 (fun r0 => c_ (.bool r0) [])
 | _ => false
abbrev FZ23 (SZ23 : TSZ23) : Fs := mkFs shFZ23 (spZ23 SZ23)
def shFZ57 : FnSh := ⟨[.agg [.flt, .flt, .flt]], []⟩
def spZ57 (SZ57 : TSZ57) : List Atom -> (V -> List Blk -> Bool) -> Bool := fun a_ c_ => match a_ with
 | [.fl v_0, .fl v_1, .fl v_2] => SZ57 v_0 v_1 v_2 (fun r0 r1 r2 r3 r4 => c_ (.tup [.agg [.flt r0, .flt r1, .flt r2, .flt r3], .int .i64 r4]) [])
 | _ => false
abbrev FZ57 (SZ57 : TSZ57) : Fs := mkFs shFZ57 (spZ57 SZ57)
def shFZ69 : FnSh := ⟨[.agg [.flt, .flt, .flt, .flt]], []⟩
def spZ69 (SZ69 : TSZ69) : List Atom -> (V -> List Blk -> Bool) -> Bool := fun a_ c_ => match a_ with
 | [.fl q_0, .fl q_1, .fl q_2, .fl q_3] => SZ69 q_0 q_1 q_2 q_3 (fun r0 r1 r2 r3 => c_ (.tup [.agg [.flt r0, .flt r1, .flt r2], .int .i64 r3]) [])
 | _ => false
abbrev FZ69 (SZ69 : TSZ69) : Fs := mkFs shFZ69 (spZ69 SZ69)
def shFZ144 : FnSh := ⟨[.flt], []⟩
def spZ144 (SZ144 : TSZ144) : List Atom -> (V -> List Blk -> Bool) -> Bool := fun a_ c_ => match a_ with
 | [.fl x] => SZ144 x (fun r0 => c_ (.int .u64 r0) [])
 | _ => false
abbrev FZ144 (SZ144 : TSZ144) : Fs := mkFs shFZ144 (spZ144 SZ144)
def shFZ105 : FnSh := ⟨[.flt], []⟩
def spZ105 (SZ105 : TSZ105) : List Atom -> (V -> List Blk -> Bool) -> Bool := fun a_ c_ => match a_ with
 | [.fl x] => SZ105 x (fun r0 r1 r2 => c_ (.tup [.bool r0, .int .i64 r1, .int .u64 r2]) [])
 | _ => false
abbrev FZ105 (SZ105 : TSZ105) : Fs := mkFs shFZ105 (spZ105 SZ105)
def shFZ131 : FnSh := ⟨[.int .u64, .int .i64], []⟩
def spZ131 (SZ131 : TSZ131) : List Atom -> (V -> List Blk -> Bool) -> Bool := fun a_ c_ => match a_ with
 | [.int m, .int e] => SZ131 m e (fun r0 r1 => c_ (.tup [.int .u64 r0, .int .i64 r1]) [])
 | _ => false
abbrev FZ131 (SZ131 : TSZ131) : Fs := mkFs shFZ131 (spZ131 SZ131)
def shFZ125 : FnSh := ⟨[.flt], []⟩
def spZ125 (SZ125 : TSZ125) : List Atom -> (V -> List Blk -> Bool) -> Bool := fun a_ c_ => match a_ with
 | [.fl x] => SZ125 x (fun r0 r1 r2 r3 => c_ (.tup [.agg [.bool r0, .int .u64 r1, .int .i64 r2], .int .i64 r3]) [])
 | _ => false
abbrev FZ125 (SZ125 : TSZ125) : Fs := mkFs shFZ125 (spZ125 SZ125)
def shFZ13 : FnSh := ⟨[.slw 0], [some (87, 1, .ints .u32)]⟩
def spZ13 (SZ13 : TSZ13) : List Atom -> (V -> List Blk -> Bool) -> Bool := fun a_ c_ => match a_ with
 | [.ints b] => SZ13 b (fun r0 r1 => c_ (.sl 0 r0 r1) [⟨87, 1, .ints .u32 b⟩])
 | _ => false
abbrev FZ13 (SZ13 : TSZ13) : Fs := mkFs shFZ13 (spZ13 SZ13)
def shFZ104 : FnSh := ⟨[.int .u64], []⟩
def spZ104 (SZ104 : TSZ104) : List Atom -> (V -> List Blk -> Bool) -> Bool := fun a_ c_ => match a_ with
 | [.int n] => SZ104 n (fun r0 => c_ (.roi .u32 r0) [])
 | _ => false
abbrev FZ104 (SZ104 : TSZ104) : Fs := mkFs shFZ104 (spZ104 SZ104)
def shFZ148 : FnSh := ⟨[.roi .u32], []⟩
def spZ148 (SZ148 : TSZ148) : List Atom -> (V -> List Blk -> Bool) -> Bool := fun a_ c_ => match a_ with
 | [.ints m] => SZ148 m (fun r0 => c_ (.roi .u32 r0) [])
 | _ => false
abbrev FZ148 (SZ148 : TSZ148) : Fs := mkFs shFZ148 (spZ148 SZ148)
def shFZ44 : FnSh := ⟨[.ptr 0 0, .bool, .roi .u32], [some (98, 1, .cells [.bool, .nil])]⟩
def spZ44 (SZ44 : TSZ44) : List Atom -> (V -> List Blk -> Bool) -> Bool := fun a_ c_ => match a_ with
 | [.bool neg, .ints m, .bool b] => SZ44 neg m b (fun r0 r1 => c_ (.ptr 0 0) [⟨98, 1, .cells [.bool r0, .roi .u32 r1]⟩])
 | _ => false
abbrev FZ44 (SZ44 : TSZ44) : Fs := mkFs shFZ44 (spZ44 SZ44)
def shFZ71 : FnSh := ⟨[.ptr 0 0, .int .u64], [some (98, 1, .cells [.bool, .nil])]⟩
def spZ71 (SZ71 : TSZ71) : List Atom -> (V -> List Blk -> Bool) -> Bool := fun a_ c_ => match a_ with
 | [.int n, .bool b] => SZ71 n b (fun r0 r1 => c_ (.ptr 0 0) [⟨98, 1, .cells [.bool r0, .roi .u32 r1]⟩])
 | _ => false
abbrev FZ71 (SZ71 : TSZ71) : Fs := mkFs shFZ71 (spZ71 SZ71)
def shFZ101 : FnSh := ⟨[.ptr 0 0, .bool, .slw 1], [some (98, 1, .cells [.bool, .roi .u32]), some (87, 1, .ints .u32)]⟩
def spZ101 (SZ101 : TSZ101) : List Atom -> (V -> List Blk -> Bool) -> Bool := fun a_ c_ => match a_ with
 | [.bool neg, .bool b, .ints b_1, .ints b_2] => SZ101 neg b b_1 b_2 (fun r0 r1 r2 => c_ (.ptr 0 0) [⟨98, 1, .cells [.bool r0, .sl 1 r1 r2]⟩, ⟨87, 1, .ints .u32 b_2⟩])
 | _ => false
abbrev FZ101 (SZ101 : TSZ101) : Fs := mkFs shFZ101 (spZ101 SZ101)
def shFZ99 : FnSh := ⟨[.ptr 0 0, .ptr 0 0], [some (98, 1, .cells [.bool, .roi .u32])]⟩
def spZ99 (SZ99 : TSZ99) : List Atom -> (V -> List Blk -> Bool) -> Bool := fun a_ c_ => match a_ with
 | [.bool b, .ints b_1] => SZ99 b b_1 (fun r0 r1 => c_ (.ptr 0 0) [⟨98, 1, .cells [.bool r0, .roi .u32 r1]⟩])
 | _ => false
abbrev FZ99 (SZ99 : TSZ99) : Fs := mkFs shFZ99 (spZ99 SZ99)
def shFZ59 : FnSh := ⟨[.flt], []⟩
def spZ59 (SZ59 : TSZ59) : List Atom -> (V -> List Blk -> Bool) -> Bool := fun a_ c_ => match a_ with
 | [.fl x] => SZ59 x (fun r0 r1 r2 => c_ (.agg [.ptr 0 0, .int .i64 r0]) [⟨98, 1, .cells [.bool r1, .roi .u32 r2]⟩])
 | _ => false
abbrev FZ59 (SZ59 : TSZ59) : Fs := mkFs shFZ59 (spZ59 SZ59)
def shFZ80 : FnSh := ⟨[.ptr 0 0, .bool, .slw 1], [some (98, 1, .cells [.bool, .nil]), some (87, 1, .ints .u32)]⟩
def spZ80 (SZ80 : TSZ80) : List Atom -> (V -> List Blk -> Bool) -> Bool := fun a_ c_ => match a_ with
 | [.bool neg, .bool b, .ints b_1] => SZ80 neg b b_1 (fun r0 r1 r2 => c_ (.ptr 0 0) [⟨98, 1, .cells [.bool r0, .sl 1 r1 r2]⟩, ⟨87, 1, .ints .u32 b_1⟩])
 | _ => false
abbrev FZ80 (SZ80 : TSZ80) : Fs := mkFs shFZ80 (spZ80 SZ80)
def shFZ94 : FnSh := ⟨[.ptr 0 0, .ptr 1 0], [some (98, 1, .cells [.bool, .nil]), some (98, 1, .cells [.bool, .roi .u32])]⟩
def spZ94 (SZ94 : TSZ94) : List Atom -> (V -> List Blk -> Bool) -> Bool := fun a_ c_ => match a_ with
 | [.bool b, .bool b_1, .ints b_2] => SZ94 b b_1 b_2 (fun r0 r1 => c_ (.ptr 0 0) [⟨98, 1, .cells [.bool r0, .roi .u32 r1]⟩, ⟨98, 1, .cells [.bool b_1, .roi .u32 b_2]⟩])
 | _ => false
abbrev FZ94 (SZ94 : TSZ94) : Fs := mkFs shFZ94 (spZ94 SZ94)
def shFZ6 : FnSh := ⟨[.agg [.ptr 0 0, .int .i64]], [some (98, 1, .cells [.bool, .roi .u32])]⟩
def spZ6 (SZ6 : TSZ6) : List Atom -> (V -> List Blk -> Bool) -> Bool := fun a_ c_ => match a_ with
 | [.int x, .bool b, .ints b_1] => SZ6 x b b_1 (fun r3 r4 => c_ (.agg [.ptr 1 0, .int .i64 x]) [⟨98, 1, .cells [.bool b, .roi .u32 b_1]⟩, ⟨98, 1, .cells [.bool r3, .roi .u32 r4]⟩])
 | _ => false
abbrev FZ6 (SZ6 : TSZ6) : Fs := mkFs shFZ6 (spZ6 SZ6)
def shFZ82 : FnSh := ⟨[.ptr 0 0], [some (98, 1, .cells [.bool, .roi .u32])]⟩
def spZ82 (SZ82 : TSZ82) : List Atom -> (V -> List Blk -> Bool) -> Bool := fun a_ c_ => match a_ with
 | [.bool b, .ints b_1] => SZ82 b b_1 (fun r0 => c_ (.int .i64 r0) [⟨98, 1, .cells [.bool b, .roi .u32 b_1]⟩])
 | _ => false
abbrev FZ82 (SZ82 : TSZ82) : Fs := mkFs shFZ82 (spZ82 SZ82)
def shFZ141 : FnSh := ⟨[.roi .u32, .int .u64], []⟩
def spZ141 (SZ141 : TSZ141) : List Atom -> (V -> List Blk -> Bool) -> Bool := fun a_ c_ => match a_ with
 | [.ints m, .int n] => SZ141 m n (fun r0 => c_ (.roi .u32 r0) [])
 | _ => false
abbrev FZ141 (SZ141 : TSZ141) : Fs := mkFs shFZ141 (spZ141 SZ141)
def shFZ93 : FnSh := ⟨[.ptr 0 0, .ptr 1 0, .int .u64], [some (98, 1, .cells [.bool, .nil]), some (98, 1, .cells [.bool, .roi .u32])]⟩
def spZ93 (SZ93 : TSZ93) : List Atom -> (V -> List Blk -> Bool) -> Bool := fun a_ c_ => match a_ with
 | [.int n, .bool b, .bool b_1, .ints b_2] => SZ93 n b b_1 b_2 (fun r0 r1 => c_ (.ptr 0 0) [⟨98, 1, .cells [.bool r0, .roi .u32 r1]⟩, ⟨98, 1, .cells [.bool b_1, .roi .u32 b_2]⟩])
 | _ => false
abbrev FZ93 (SZ93 : TSZ93) : Fs := mkFs shFZ93 (spZ93 SZ93)
def shFZ52 : FnSh := ⟨[.agg [.ptr 0 0, .int .i64], .int .i64], [some (98, 1, .cells [.bool, .roi .u32])]⟩
def spZ52 (SZ52 : TSZ52) : List Atom -> (V -> List Blk -> Bool) -> Bool := fun a_ c_ => match a_ with
 | [.int x, .int e, .bool b, .ints b_1] => SZ52 x e b b_1 (c_ (.agg [.ptr 0 0, .int .i64 x]) [⟨98, 1, .cells [.bool b, .roi .u32 b_1]⟩]) (fun r3 r4 => c_ (.agg [.ptr 1 0, .int .i64 e]) [⟨98, 1, .cells [.bool b, .roi .u32 b_1]⟩, ⟨98, 1, .cells [.bool r3, .roi .u32 r4]⟩])
 | _ => false
abbrev FZ52 (SZ52 : TSZ52) : Fs := mkFs shFZ52 (spZ52 SZ52)
def shFZ142 : FnSh := ⟨[.roi .u32, .roi .u32], []⟩
def spZ142 (SZ142 : TSZ142) : List Atom -> (V -> List Blk -> Bool) -> Bool := fun a_ c_ => match a_ with
 | [.ints a, .ints b] => SZ142 a b (fun r0 => c_ (.roi .u32 r0) [])
 | _ => false
abbrev FZ142 (SZ142 : TSZ142) : Fs := mkFs shFZ142 (spZ142 SZ142)
def shFZ103 : FnSh := ⟨[.roi .u32, .roi .u32], []⟩
def spZ103 (SZ103 : TSZ103) : List Atom -> (V -> List Blk -> Bool) -> Bool := fun a_ c_ => match a_ with
 | [.ints a, .ints b] => SZ103 a b (fun r0 => c_ (.int .i64 r0) [])
 | _ => false
abbrev FZ103 (SZ103 : TSZ103) : Fs := mkFs shFZ103 (spZ103 SZ103)
def shFZ126 : FnSh := ⟨[.roi .u32, .roi .u32], []⟩
def spZ126 (SZ126 : TSZ126) : List Atom -> (V -> List Blk -> Bool) -> Bool := fun a_ c_ => match a_ with
 | [.ints a, .ints b] => SZ126 a b (fun r0 => c_ (.roi .u32 r0) [])
 | _ => false
abbrev FZ126 (SZ126 : TSZ126) : Fs := mkFs shFZ126 (spZ126 SZ126)
def shFZ76 : FnSh := ⟨[.ptr 0 0, .ptr 1 0, .ptr 2 0, .bool], [some (98, 1, .cells [.bool, .nil]), some (98, 1, .cells [.bool, .roi .u32]), some (98, 1, .cells [.bool, .roi .u32])]⟩
def spZ76 (SZ76 : TSZ76) : List Atom -> (V -> List Blk -> Bool) -> Bool := fun a_ c_ => match a_ with
 | [.bool turn, .bool b, .bool b_1, .ints b_2, .bool b_3, .ints b_4] => SZ76 turn b b_1 b_2 b_3 b_4 (fun r0 r1 => c_ (.ptr 0 0) [⟨98, 1, .cells [.bool r0, .roi .u32 r1]⟩, ⟨98, 1, .cells [.bool b_1, .roi .u32 b_2]⟩, ⟨98, 1, .cells [.bool b_3, .roi .u32 b_4]⟩])
 | _ => false
abbrev FZ76 (SZ76 : TSZ76) : Fs := mkFs shFZ76 (spZ76 SZ76)
def shFZ64 : FnSh := ⟨[.ptr 0 0, .ptr 1 0, .ptr 2 0], [some (98, 1, .cells [.bool, .nil]), some (98, 1, .cells [.bool, .roi .u32]), some (98, 1, .cells [.bool, .roi .u32])]⟩
def spZ64 (SZ64 : TSZ64) : List Atom -> (V -> List Blk -> Bool) -> Bool := fun a_ c_ => match a_ with
 | [.bool b, .bool b_1, .ints b_2, .bool b_3, .ints b_4] => SZ64 b b_1 b_2 b_3 b_4 (fun r0 r1 => c_ (.ptr 0 0) [⟨98, 1, .cells [.bool r0, .roi .u32 r1]⟩, ⟨98, 1, .cells [.bool b_1, .roi .u32 b_2]⟩, ⟨98, 1, .cells [.bool b_3, .roi .u32 b_4]⟩])
 | _ => false
abbrev FZ64 (SZ64 : TSZ64) : Fs := mkFs shFZ64 (spZ64 SZ64)
def shFZ3 : FnSh := ⟨[.agg [.ptr 0 0, .int .i64], .agg [.ptr 1 0, .int .i64]], [some (98, 1, .cells [.bool, .roi .u32]), some (98, 1, .cells [.bool, .roi .u32])]⟩
def spZ3 (SZ3 : TSZ3) : List Atom -> (V -> List Blk -> Bool) -> Bool := fun a_ c_ => match a_ with
 | [.int x, .int y, .bool b, .ints b_1, .bool b_2, .ints b_3] => SZ3 x y b b_1 b_2 b_3 (c_ (.agg [.ptr 1 0, .int .i64 y]) [⟨98, 1, .cells [.bool b, .roi .u32 b_1]⟩, ⟨98, 1, .cells [.bool b_2, .roi .u32 b_3]⟩]) (c_ (.agg [.ptr 0 0, .int .i64 x]) [⟨98, 1, .cells [.bool b, .roi .u32 b_1]⟩, ⟨98, 1, .cells [.bool b_2, .roi .u32 b_3]⟩]) (fun r0 r5 r6 => c_ (.agg [.ptr 2 0, .int .i64 r0]) [⟨98, 1, .cells [.bool b, .roi .u32 b_1]⟩, ⟨98, 1, .cells [.bool b_2, .roi .u32 b_3]⟩, ⟨98, 1, .cells [.bool r5, .roi .u32 r6]⟩])
 | _ => false
abbrev FZ3 (SZ3 : TSZ3) : Fs := mkFs shFZ3 (spZ3 SZ3)
def shFZ92 : FnSh := ⟨[.ptr 0 0, .ptr 1 0], [some (98, 1, .cells [.bool, .nil]), some (98, 1, .cells [.bool, .roi .u32])]⟩
def spZ92 (SZ92 : TSZ92) : List Atom -> (V -> List Blk -> Bool) -> Bool := fun a_ c_ => match a_ with
 | [.bool b, .bool b_1, .ints b_2] => SZ92 b b_1 b_2 (fun r0 r1 => c_ (.ptr 0 0) [⟨98, 1, .cells [.bool r0, .roi .u32 r1]⟩, ⟨98, 1, .cells [.bool b_1, .roi .u32 b_2]⟩])
 | _ => false
abbrev FZ92 (SZ92 : TSZ92) : Fs := mkFs shFZ92 (spZ92 SZ92)
def shFZ0 : FnSh := ⟨[.agg [.ptr 0 0, .int .i64]], [some (98, 1, .cells [.bool, .roi .u32])]⟩
def spZ0 (SZ0 : TSZ0) : List Atom -> (V -> List Blk -> Bool) -> Bool := fun a_ c_ => match a_ with
 | [.int x, .bool b, .ints b_1] => SZ0 x b b_1 (fun r3 r4 => c_ (.agg [.ptr 1 0, .int .i64 x]) [⟨98, 1, .cells [.bool b, .roi .u32 b_1]⟩, ⟨98, 1, .cells [.bool r3, .roi .u32 r4]⟩])
 | _ => false
abbrev FZ0 (SZ0 : TSZ0) : Fs := mkFs shFZ0 (spZ0 SZ0)
def shFZ85 : FnSh := ⟨[.ptr 0 0, .int .i64], [some (98, 1, .cells [.bool, .nil])]⟩
def spZ85 (SZ85 : TSZ85) : List Atom -> (V -> List Blk -> Bool) -> Bool := fun a_ c_ => match a_ with
 | [.int n, .bool b] => SZ85 n b (fun r0 r1 => c_ (.ptr 0 0) [⟨98, 1, .cells [.bool r0, .roi .u32 r1]⟩])
 | _ => false
abbrev FZ85 (SZ85 : TSZ85) : Fs := mkFs shFZ85 (spZ85 SZ85)
def shFZ111 : FnSh := ⟨[.int .i64], []⟩
def spZ111 (SZ111 : TSZ111) : List Atom -> (V -> List Blk -> Bool) -> Bool := fun a_ c_ => match a_ with
 | [.int n] => SZ111 n (fun r0 r1 => c_ (.ptr 0 0) [⟨98, 1, .cells [.bool r0, .roi .u32 r1]⟩])
 | _ => false
abbrev FZ111 (SZ111 : TSZ111) : Fs := mkFs shFZ111 (spZ111 SZ111)
def shFZ32 : FnSh := ⟨[.int .i64], []⟩
def spZ32 (SZ32 : TSZ32) : List Atom -> (V -> List Blk -> Bool) -> Bool := fun a_ c_ => match a_ with
 | [.int e] => SZ32 e (fun r1 r2 => c_ (.agg [.ptr 0 0, .int .i64 e]) [⟨98, 1, .cells [.bool r1, .roi .u32 r2]⟩])
 | _ => false
abbrev FZ32 (SZ32 : TSZ32) : Fs := mkFs shFZ32 (spZ32 SZ32)
def shFZ122 : FnSh := ⟨[.roi .u32, .roi .u32], []⟩
def spZ122 (SZ122 : TSZ122) : List Atom -> (V -> List Blk -> Bool) -> Bool := fun a_ c_ => match a_ with
 | [.ints a, .ints b] => SZ122 a b (fun r0 => c_ (.roi .u32 r0) [])
 | _ => false
abbrev FZ122 (SZ122 : TSZ122) : Fs := mkFs shFZ122 (spZ122 SZ122)
def shFZ75 : FnSh := ⟨[.ptr 0 0, .ptr 1 0, .ptr 2 0], [some (98, 1, .cells [.bool, .nil]), some (98, 1, .cells [.bool, .roi .u32]), some (98, 1, .cells [.bool, .roi .u32])]⟩
def spZ75 (SZ75 : TSZ75) : List Atom -> (V -> List Blk -> Bool) -> Bool := fun a_ c_ => match a_ with
 | [.bool b, .bool b_1, .ints b_2, .bool b_3, .ints b_4] => SZ75 b b_1 b_2 b_3 b_4 (fun r0 r1 => c_ (.ptr 0 0) [⟨98, 1, .cells [.bool r0, .roi .u32 r1]⟩, ⟨98, 1, .cells [.bool b_1, .roi .u32 b_2]⟩, ⟨98, 1, .cells [.bool b_3, .roi .u32 b_4]⟩])
 | _ => false
abbrev FZ75 (SZ75 : TSZ75) : Fs := mkFs shFZ75 (spZ75 SZ75)
def shFZ2 : FnSh := ⟨[.agg [.ptr 0 0, .int .i64], .agg [.ptr 1 0, .int .i64]], [some (98, 1, .cells [.bool, .roi .u32]), some (98, 1, .cells [.bool, .roi .u32])]⟩
def spZ2 (SZ2 : TSZ2) : List Atom -> (V -> List Blk -> Bool) -> Bool := fun a_ c_ => match a_ with
 | [.int x, .int y, .bool b, .ints b_1, .bool b_2, .ints b_3] => SZ2 x y b b_1 b_2 b_3 (fun r0 r5 r6 => c_ (.agg [.ptr 2 0, .int .i64 r0]) [⟨98, 1, .cells [.bool b, .roi .u32 b_1]⟩, ⟨98, 1, .cells [.bool b_2, .roi .u32 b_3]⟩, ⟨98, 1, .cells [.bool r5, .roi .u32 r6]⟩])
 | _ => false
abbrev FZ2 (SZ2 : TSZ2) : Fs := mkFs shFZ2 (spZ2 SZ2)
def shFZ1 : FnSh := ⟨[.agg [.ptr 0 0, .int .i64], .agg [.ptr 1 0, .int .i64]], [some (98, 1, .cells [.bool, .roi .u32]), some (98, 1, .cells [.bool, .roi .u32])]⟩
def spZ1 (SZ1 : TSZ1) : List Atom -> (V -> List Blk -> Bool) -> Bool := fun a_ c_ => match a_ with
 | [.int x, .int y, .bool b, .ints b_1, .bool b_2, .ints b_3] => SZ1 x y b b_1 b_2 b_3 (fun r0 => c_ (.int .i64 r0) [⟨98, 1, .cells [.bool b, .roi .u32 b_1]⟩, ⟨98, 1, .cells [.bool b_2, .roi .u32 b_3]⟩])
 | _ => false
abbrev FZ1 (SZ1 : TSZ1) : Fs := mkFs shFZ1 (spZ1 SZ1)
def shFZ46 : FnSh := ⟨[.agg [.int .u64, .int .u64, .int .u64, .int .u64], .agg [.int .u64, .int .u64, .int .u64]], []⟩
end Go.Proofs.YtnfgnjciliapaaaGreatDoor
