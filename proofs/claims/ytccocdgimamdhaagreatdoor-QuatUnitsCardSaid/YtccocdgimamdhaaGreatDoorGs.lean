/-
  THE MEANINGS, as specifications (written by program).
  Conditions: none.
-/
import Derived.Test.YtccocdgimamdhaaGreatDoorGp
import Derived.Test.YtccocdgimamdhaaGreatDoorMachZj
import Derived.Test.YtccocdgimamdhaaGreatDoorProg
namespace Go.Proofs.YtccocdgimamdhaaGreatDoor
open Go Go.Mach Go.Proofs
set_option linter.unusedVariables false
set_option maxRecDepth 50000

noncomputable abbrev Pg : Program := Tryz.prog
def sqs : Nat → List Sh → List Sh
  | 0, t => t
  | n + 1, t => .any :: sqs n t
def isref : Nat -> Bool := fun g => g == 147 || g == 113 || g == 202 || g == 170 || g == 1000201 || g == 1000182 || g == 1000180 || g == 1000059 || g == 1000090

def shFj176 : FnSh := ⟨[.fb], []⟩
def spj176 (Sj176 : TSj176) : List Atom -> (V -> List Blk -> Bool) -> Bool := fun a_ c_ => match a_ with
  | [.nat a0] => Sj176 a0 (fun r0 => c_ (.int .u64 r0) [])
  | _ => false
abbrev Fj176 (Sj176 : TSj176) : Fs := mkFs shFj176 (spj176 Sj176)

def shF_an_of : FnSh := ⟨[.litI .i64 0], []⟩
def sp_an_of (S_an_of : TS_an_of) : List Atom -> (V -> List Blk -> Bool) -> Bool := fun a_ c_ => match a_ with
  | [] => S_an_of (fun r0 r1 r2 => c_ (.agg [.int .u64 r0, .int .i64 r1, .int .i64 r2]) [])
  | _ => false
abbrev F_an_of (S_an_of : TS_an_of) : Fs := mkFs shF_an_of (sp_an_of S_an_of)

def shFj177 : FnSh := ⟨[.agg [.int .u64, .int .i64, .int .i64]], []⟩
def spj177 (Sj177 : TSj177) : List Atom -> (V -> List Blk -> Bool) -> Bool := fun a_ c_ => match a_ with
  | [.int f_0, .int f_1, .int f_2] => Sj177 f_0 f_1 f_2 (fun r0 => c_ (.int .u64 r0) [])
  | _ => false
abbrev Fj177 (Sj177 : TSj177) : Fs := mkFs shFj177 (spj177 Sj177)

def shFj102 : FnSh := ⟨[.agg [.int .u64, .int .i64, .int .i64]], []⟩
def spj102 (Sj102 : TSj102) : List Atom -> (V -> List Blk -> Bool) -> Bool := fun a_ c_ => match a_ with
  | [.int f_0, .int f_1, .int f_2] => Sj102 f_0 f_1 f_2 (fun r0 => c_ (.int .u64 r0) [])
  | _ => false
abbrev Fj102 (Sj102 : TSj102) : Fs := mkFs shFj102 (spj102 Sj102)

def shFj101 : FnSh := ⟨[.int .u64, .agg [.int .u64, .int .i64, .int .i64]], []⟩
def spj101 (Sj101 : TSj101) : List Atom -> (V -> List Blk -> Bool) -> Bool := fun a_ c_ => match a_ with
  | [.int b, .int f_0, .int f_1, .int f_2] => Sj101 b f_0 f_1 f_2 (fun r0 => c_ (.bool r0) [])
  | _ => false
abbrev Fj101 (Sj101 : TSj101) : Fs := mkFs shFj101 (spj101 Sj101)

def shFj81 : FnSh := ⟨[.agg [.int .u64, .int .i64, .int .i64]], []⟩
def spj81 (Sj81 : TSj81) : List Atom -> (V -> List Blk -> Bool) -> Bool := fun a_ c_ => match a_ with
  | [.int f_0, .int f_1, .int f_2] => Sj81 f_0 f_1 f_2 (fun r0 => c_ (.int .u64 r0) [])
  | _ => false
abbrev Fj81 (Sj81 : TSj81) : Fs := mkFs shFj81 (spj81 Sj81)

def shFj192 : FnSh := ⟨[.agg [.int .u64, .int .i64, .int .i64]], []⟩
def spj192 (Sj192 : TSj192) : List Atom -> (V -> List Blk -> Bool) -> Bool := fun a_ c_ => match a_ with
  | [.int f_0, .int f_1, .int f_2] => Sj192 f_0 f_1 f_2 (fun r0 => c_ (.int .u64 r0) [])
  | _ => false
abbrev Fj192 (Sj192 : TSj192) : Fs := mkFs shFj192 (spj192 Sj192)

def shFj83 : FnSh := ⟨[.int .u64, .agg [.int .u64, .int .i64, .int .i64]], []⟩
def spj83 (Sj83 : TSj83) : List Atom -> (V -> List Blk -> Bool) -> Bool := fun a_ c_ => match a_ with
  | [.int b, .int f_0, .int f_1, .int f_2] => Sj83 b f_0 f_1 f_2 (fun r0 => c_ (.int .u64 r0) [])
  | _ => false
abbrev Fj83 (Sj83 : TSj83) : Fs := mkFs shFj83 (spj83 Sj83)

def shFj30 : FnSh := ⟨[.int .u64, .agg [.int .u64, .int .i64, .int .i64]], []⟩
def spj30 (Sj30 : TSj30) : List Atom -> (V -> List Blk -> Bool) -> Bool := fun a_ c_ => match a_ with
  | [.int b, .int f_0, .int f_1, .int f_2] => Sj30 b f_0 f_1 f_2 (fun r0 r1 r2 => c_ (.tup [.bool r0, .int .i64 r1, .int .u64 r2]) [])
  | _ => false
abbrev Fj30 (Sj30 : TSj30) : Fs := mkFs shFj30 (spj30 Sj30)

def shFj29 : FnSh := ⟨[.int .u64, .agg [.int .u64, .int .i64, .int .i64]], []⟩
def spj29 (Sj29 : TSj29) : List Atom -> (V -> List Blk -> Bool) -> Bool := fun a_ c_ => match a_ with
  | [.int b, .int f_0, .int f_1, .int f_2] => Sj29 b f_0 f_1 f_2 (fun r0 => c_ (.int .i64 r0) [])
  | _ => false
abbrev Fj29 (Sj29 : TSj29) : Fs := mkFs shFj29 (spj29 Sj29)

def shFj182 : FnSh := ⟨[.fb], []⟩
def spj182 (Sj182 : TSj182) : List Atom -> (V -> List Blk -> Bool) -> Bool := fun a_ c_ => match a_ with
  | [.nat x] => Sj182 x (fun r0 => c_ (.int .i64 r0) [])
  | _ => false
abbrev Fj182 (Sj182 : TSj182) : Fs := mkFs shFj182 (spj182 Sj182)

def shFj97 : FnSh := ⟨[.int .u64], []⟩
def spj97 (Sj97 : TSj97) : List Atom -> (V -> List Blk -> Bool) -> Bool := fun a_ c_ => match a_ with
  | [.int a0] => Sj97 a0 (fun r0 => c_ (.flt r0) [])
  | _ => false
abbrev Fj97 (Sj97 : TSj97) : Fs := mkFs shFj97 (spj97 Sj97)

def shFj198 : FnSh := ⟨[.fb], []⟩
def spj198 (Sj198 : TSj198) : List Atom -> (V -> List Blk -> Bool) -> Bool := fun a_ c_ => match a_ with
  | [.nat x] => Sj198 x (fun r0 => c_ (.flt r0) [])
  | _ => false
abbrev Fj198 (Sj198 : TSj198) : Fs := mkFs shFj198 (spj198 Sj198)

def shFj92 : FnSh := ⟨[.int .u64], []⟩
def spj92 (Sj92 : TSj92) : List Atom -> (V -> List Blk -> Bool) -> Bool := fun a_ c_ => match a_ with
  | [.int b] => Sj92 b (fun r0 => c_ (.flt r0) [])
  | _ => false
abbrev Fj92 (Sj92 : TSj92) : Fs := mkFs shFj92 (spj92 Sj92)

def shFj50 : FnSh := ⟨[.agg [.int .u64, .int .u64, .int .u64, .int .u64]], []⟩
def spj50 (Sj50 : TSj50) : List Atom -> (V -> List Blk -> Bool) -> Bool := fun a_ c_ => match a_ with
  | [.int q_0, .int q_1, .int q_2, .int q_3] => Sj50 q_0 q_1 q_2 q_3 (fun r0 r1 r2 r3 => c_ (.agg [.flt r0, .flt r1, .flt r2, .flt r3]) [])
  | _ => false
abbrev Fj50 (Sj50 : TSj50) : Fs := mkFs shFj50 (spj50 Sj50)

def shFj35 : FnSh := ⟨[.rof], []⟩
def spj35 (Sj35 : TSj35) : List Atom -> (V -> List Blk -> Bool) -> Bool := fun a_ c_ => match a_ with
  | [.fls l] => Sj35 l (fun r0 => c_ (.bool r0) [])
  | _ => false
abbrev Fj35 (Sj35 : TSj35) : Fs := mkFs shFj35 (spj35 Sj35)

def shFj15 : FnSh := ⟨[.ro 4 [.flt, .flt, .flt, .flt]], []⟩
def spj15 (Sj15 : TSj15) : List Atom -> (V -> List Blk -> Bool) -> Bool := fun a_ c_ => match a_ with
  | [.fl qs_0, .fl qs_1, .fl qs_2, .fl qs_3] => Sj15 qs_0 qs_1 qs_2 qs_3 (fun r0 => c_ (.bool r0) [])
  | _ => false
abbrev Fj15 (Sj15 : TSj15) : Fs := mkFs shFj15 (spj15 Sj15)

def shFj60 : FnSh := ⟨[.agg [.flt, .flt, .flt, .flt]], []⟩
def spj60 (Sj60 : TSj60) : List Atom -> (V -> List Blk -> Bool) -> Bool := fun a_ c_ => match a_ with
  | [.fl q_0, .fl q_1, .fl q_2, .fl q_3] => Sj60 q_0 q_1 q_2 q_3 (c_ (.agg [.flt q_0, .flt q_1, .flt q_2, .flt q_3]) [])
  | _ => false
abbrev Fj60 (Sj60 : TSj60) : Fs := mkFs shFj60 (spj60 Sj60)

def shF_m_Abs : FnSh := ⟨[.flt], []⟩
def sp_m_Abs (S_m_Abs : TS_m_Abs) : List Atom -> (V -> List Blk -> Bool) -> Bool := fun a_ c_ => match a_ with
  | [.fl x] => S_m_Abs x (fun r0 => c_ (.flt r0) [])
  | _ => false
abbrev F_m_Abs (S_m_Abs : TS_m_Abs) : Fs := mkFs shF_m_Abs (sp_m_Abs S_m_Abs)

def shFj138 : FnSh := ⟨[.flt, .int .i64], []⟩
def spj138 (Sj138 : TSj138) : List Atom -> (V -> List Blk -> Bool) -> Bool := fun a_ c_ => match a_ with
  | [.fl f, .int sign] => Sj138 f sign (fun r0 => c_ (.bool r0) [])
  | _ => false
abbrev Fj138 (Sj138 : TSj138) : Fs := mkFs shFj138 (spj138 Sj138)

def shFj146 : FnSh := ⟨[.flt], []⟩
def spj146 (Sj146 : TSj146) : List Atom -> (V -> List Blk -> Bool) -> Bool := fun a_ c_ => match a_ with
  | [.fl f] => Sj146 f (fun r0 => c_ (.bool r0) [])
  | _ => false
abbrev Fj146 (Sj146 : TSj146) : Fs := mkFs shFj146 (spj146 Sj146)

def shFj76 : FnSh := ⟨[.flt], []⟩
def spj76 (Sj76 : TSj76) : List Atom -> (V -> List Blk -> Bool) -> Bool := fun a_ c_ => match a_ with
  | [.fl x] => Sj76 x (fun r0 r1 => c_ (.tup [.flt r0, .int .i64 r1]) [])
  | _ => false
abbrev Fj76 (Sj76 : TSj76) : Fs := mkFs shFj76 (spj76 Sj76)

def shFj106 : FnSh := ⟨[.flt], []⟩
def spj106 (Sj106 : TSj106) : List Atom -> (V -> List Blk -> Bool) -> Bool := fun a_ c_ => match a_ with
  | [.fl a0] => Sj106 a0 (fun r0 => c_ (.int .u64 r0) [])
  | _ => false
abbrev Fj106 (Sj106 : TSj106) : Fs := mkFs shFj106 (spj106 Sj106)

def shFj194 : FnSh := ⟨[.flt], []⟩
def spj194 (Sj194 : TSj194) : List Atom -> (V -> List Blk -> Bool) -> Bool := fun a_ c_ => match a_ with
  | [.fl f] => Sj194 f (fun r0 r1 => c_ (.tup [.flt r0, .int .i64 r1]) [])
  | _ => false
abbrev Fj194 (Sj194 : TSj194) : Fs := mkFs shFj194 (spj194 Sj194)

def shFj136 : FnSh := ⟨[.flt], []⟩
def spj136 (Sj136 : TSj136) : List Atom -> (V -> List Blk -> Bool) -> Bool := fun a_ c_ => match a_ with
  | [.fl f] => Sj136 f (fun r0 r1 => c_ (.tup [.flt r0, .int .i64 r1]) [])
  | _ => false
abbrev Fj136 (Sj136 : TSj136) : Fs := mkFs shFj136 (spj136 Sj136)

def shFj116 : FnSh := ⟨[.flt, .flt], []⟩
def spj116 (Sj116 : TSj116) : List Atom -> (V -> List Blk -> Bool) -> Bool := fun a_ c_ => match a_ with
  | [.fl f, .fl sign] => Sj116 f sign (fun r0 => c_ (.flt r0) [])
  | _ => false
abbrev Fj116 (Sj116 : TSj116) : Fs := mkFs shFj116 (spj116 Sj116)

def shF_m_Inf : FnSh := ⟨[.int .i64], []⟩
def sp_m_Inf (S_m_Inf : TS_m_Inf) : List Atom -> (V -> List Blk -> Bool) -> Bool := fun a_ c_ => match a_ with
  | [.int sign] => S_m_Inf sign (fun r0 => c_ (.flt r0) [])
  | _ => false
abbrev F_m_Inf (S_m_Inf : TS_m_Inf) : Fs := mkFs shF_m_Inf (sp_m_Inf S_m_Inf)

def shFj188 : FnSh := ⟨[.flt, .int .i64], []⟩
def spj188 (Sj188 : TSj188) : List Atom -> (V -> List Blk -> Bool) -> Bool := fun a_ c_ => match a_ with
  | [.fl frac, .int exp] => Sj188 frac exp (fun r0 => c_ (.flt r0) [])
  | _ => false
abbrev Fj188 (Sj188 : TSj188) : Fs := mkFs shFj188 (spj188 Sj188)

def shFj187 : FnSh := ⟨[.flt, .int .i64], []⟩
def spj187 (Sj187 : TSj187) : List Atom -> (V -> List Blk -> Bool) -> Bool := fun a_ c_ => match a_ with
  | [.fl frac, .int exp] => Sj187 frac exp (fun r0 => c_ (.flt r0) [])
  | _ => false
abbrev Fj187 (Sj187 : TSj187) : Fs := mkFs shFj187 (spj187 Sj187)

def shFj205 : FnSh := ⟨[.flt], []⟩
def spj205 (Sj205 : TSj205) : List Atom -> (V -> List Blk -> Bool) -> Bool := fun a_ c_ => match a_ with
  | [.fl a0] => Sj205 a0 (fun r0 => c_ (.flt r0) [])
  | _ => false
abbrev Fj205 (Sj205 : TSj205) : Fs := mkFs shFj205 (spj205 Sj205)

def shFj190 : FnSh := ⟨[.flt], []⟩
def spj190 (Sj190 : TSj190) : List Atom -> (V -> List Blk -> Bool) -> Bool := fun a_ c_ => match a_ with
  | [.fl x] => Sj190 x (fun r0 => c_ (.flt r0) [])
  | _ => false
abbrev Fj190 (Sj190 : TSj190) : Fs := mkFs shFj190 (spj190 Sj190)

def shFj164 : FnSh := ⟨[.agg [.flt, .flt, .flt, .flt]], []⟩
def spj164 (Sj164 : TSj164) : List Atom -> (V -> List Blk -> Bool) -> Bool := fun a_ c_ => match a_ with
  | [.fl l_0, .fl l_1, .fl l_2, .fl l_3] => Sj164 l_0 l_1 l_2 l_3 (c_ (.agg [.flt l_0, .flt l_1, .flt l_2, .flt l_3]) [])
  | _ => false
abbrev Fj164 (Sj164 : TSj164) : Fs := mkFs shFj164 (spj164 Sj164)

def shFj89 : FnSh := ⟨[.agg [.flt, .flt, .flt, .flt]], []⟩
def spj89 (Sj89 : TSj89) : List Atom -> (V -> List Blk -> Bool) -> Bool := fun a_ c_ => match a_ with
  | [.fl q_0, .fl q_1, .fl q_2, .fl q_3] => Sj89 q_0 q_1 q_2 q_3 (fun r0 r1 r2 r3 r4 => c_ (.tup [.agg [.flt r0, .flt r1, .flt r2, .flt r3], .int .i64 r4]) [])
  | _ => false
abbrev Fj89 (Sj89 : TSj89) : Fs := mkFs shFj89 (spj89 Sj89)

def shFj117 : FnSh := ⟨[.agg [.flt, .flt, .flt, .flt]], []⟩
def spj117 (Sj117 : TSj117) : List Atom -> (V -> List Blk -> Bool) -> Bool := fun a_ c_ => match a_ with
  | [.fl q_0, .fl q_1, .fl q_2, .fl q_3] => Sj117 q_0 q_1 q_2 q_3 (fun r0 => c_ (.slw 0) [⟨24, 1, .flts r0⟩])
  | _ => false
abbrev Fj117 (Sj117 : TSj117) : Fs := mkFs shFj117 (spj117 Sj117)

def shFj144 : FnSh := ⟨[.flt], []⟩
def spj144 (Sj144 : TSj144) : List Atom -> (V -> List Blk -> Bool) -> Bool := fun a_ c_ => match a_ with
  | [.fl x] => Sj144 x (fun r0 => c_ (.int .u64 r0) [])
  | _ => false
abbrev Fj144 (Sj144 : TSj144) : Fs := mkFs shFj144 (spj144 Sj144)

def shFj105 : FnSh := ⟨[.flt], []⟩
def spj105 (Sj105 : TSj105) : List Atom -> (V -> List Blk -> Bool) -> Bool := fun a_ c_ => match a_ with
  | [.fl x] => Sj105 x (fun r0 r1 r2 => c_ (.tup [.bool r0, .int .i64 r1, .int .u64 r2]) [])
  | _ => false
abbrev Fj105 (Sj105 : TSj105) : Fs := mkFs shFj105 (spj105 Sj105)

def shFj127 : FnSh := ⟨[.int .i64, .int .u64, .int .i64], []⟩
def spj127 (Sj127 : TSj127) : List Atom -> (V -> List Blk -> Bool) -> Bool := fun a_ c_ => match a_ with
  | [.int exp, .int frac, .int most] => Sj127 exp frac most (fun r0 => c_ (.int .i64 r0) [])
  | _ => false
abbrev Fj127 (Sj127 : TSj127) : Fs := mkFs shFj127 (spj127 Sj127)

def shFj166 : FnSh := ⟨[.flt], []⟩
def spj166 (Sj166 : TSj166) : List Atom -> (V -> List Blk -> Bool) -> Bool := fun a_ c_ => match a_ with
  | [.fl x] => Sj166 x (fun r0 => c_ (.int .i64 r0) [])
  | _ => false
abbrev Fj166 (Sj166 : TSj166) : Fs := mkFs shFj166 (spj166 Sj166)

def shFj87 : FnSh := ⟨[.flt], []⟩
def spj87 (Sj87 : TSj87) : List Atom -> (V -> List Blk -> Bool) -> Bool := fun a_ c_ => match a_ with
  | [.fl x] => Sj87 x (fun r0 => c_ (.bool r0) [])
  | _ => false
abbrev Fj87 (Sj87 : TSj87) : Fs := mkFs shFj87 (spj87 Sj87)

def shFj107 : FnSh := ⟨[.rof], []⟩
def spj107 (Sj107 : TSj107) : List Atom -> (V -> List Blk -> Bool) -> Bool := fun a_ c_ => match a_ with
  | [.fls l] => Sj107 l (fun r0 => c_ (.bool r0) [])
  | _ => false
abbrev Fj107 (Sj107 : TSj107) : Fs := mkFs shFj107 (spj107 Sj107)

def shFj44 : FnSh := ⟨[.agg [.flt, .flt, .flt, .flt]], []⟩
def spj44 (Sj44 : TSj44) : List Atom -> (V -> List Blk -> Bool) -> Bool := fun a_ c_ => match a_ with
  | [.fl q_0, .fl q_1, .fl q_2, .fl q_3] => Sj44 q_0 q_1 q_2 q_3 (fun r0 => c_ (.bool r0) [])
  | _ => false
abbrev Fj44 (Sj44 : TSj44) : Fs := mkFs shFj44 (spj44 Sj44)

def shFj64 : FnSh := ⟨[.ro 1 [.bool]], []⟩
def spj64 (Sj64 : TSj64) : List Atom -> (V -> List Blk -> Bool) -> Bool := fun a_ c_ => match a_ with
  | [.bool ok] => Sj64 ok (fun r0 => c_ (.int .i64 r0) [])
  | _ => false
abbrev Fj64 (Sj64 : TSj64) : Fs := mkFs shFj64 (spj64 Sj64)

def shFj155 : FnSh := ⟨[.rof], []⟩
def spj155 (Sj155 : TSj155) : List Atom -> (V -> List Blk -> Bool) -> Bool := fun a_ c_ => match a_ with
  | [.fls x] => Sj155 x (fun r0 r1 => c_ (.tup [.int .i64 r0, .bool r1]) [])
  | _ => false
abbrev Fj155 (Sj155 : TSj155) : Fs := mkFs shFj155 (spj155 Sj155)

def shFj120 : FnSh := ⟨[.litI .i64 0], []⟩
def spj120 (Sj120 : TSj120) : List Atom -> (V -> List Blk -> Bool) -> Bool := fun a_ c_ => match a_ with
  | [] => Sj120 (c_ (.bool true) [])
  | _ => false
abbrev Fj120 (Sj120 : TSj120) : Fs := mkFs shFj120 (spj120 Sj120)

def shFj100 : FnSh := ⟨[], []⟩
def spj100 (Sj100 : TSj100) : List Atom -> (V -> List Blk -> Bool) -> Bool := fun a_ c_ => match a_ with
  | [] => Sj100 (c_ (.agg [.int .i64 53, .int .i64 (-1022), .int .i64 1023, .int .i64 11]) [])
  | _ => false
abbrev Fj100 (Sj100 : TSj100) : Fs := mkFs shFj100 (spj100 Sj100)

def shFj10 : FnSh := ⟨[.slw 0], [some (127, 1, .ints .u32)]⟩
def spj10 (Sj10 : TSj10) : List Atom -> (V -> List Blk -> Bool) -> Bool := fun a_ c_ => match a_ with
  | [.ints b] => Sj10 b (fun r0 r1 => c_ (.sl 0 r0 r1) [⟨127, 1, .ints .u32 b⟩])
  | _ => false
abbrev Fj10 (Sj10 : TSj10) : Fs := mkFs shFj10 (spj10 Sj10)

def shFj104 : FnSh := ⟨[.int .u64], []⟩
def spj104 (Sj104 : TSj104) : List Atom -> (V -> List Blk -> Bool) -> Bool := fun a_ c_ => match a_ with
  | [.int n] => Sj104 n (fun r0 => c_ (.roi .u32 r0) [])
  | _ => false
abbrev Fj104 (Sj104 : TSj104) : Fs := mkFs shFj104 (spj104 Sj104)

def shFj173 : FnSh := ⟨[.roi .u32], []⟩
def spj173 (Sj173 : TSj173) : List Atom -> (V -> List Blk -> Bool) -> Bool := fun a_ c_ => match a_ with
  | [.ints m] => Sj173 m (fun r0 => c_ (.roi .u32 r0) [])
  | _ => false
abbrev Fj173 (Sj173 : TSj173) : Fs := mkFs shFj173 (spj173 Sj173)

def shFj43 : FnSh := ⟨[.ptr 0 0, .bool, .roi .u32], [some (105, 1, .cells [.bool, .nil])]⟩
def spj43 (Sj43 : TSj43) : List Atom -> (V -> List Blk -> Bool) -> Bool := fun a_ c_ => match a_ with
  | [.bool neg, .ints m, .bool b] => Sj43 neg m b (fun r0 r1 => c_ (.ptr 0 0) [⟨105, 1, .cells [.bool r0, .roi .u32 r1]⟩])
  | _ => false
abbrev Fj43 (Sj43 : TSj43) : Fs := mkFs shFj43 (spj43 Sj43)

def shFj54 : FnSh := ⟨[.ptr 0 0, .int .u64], [some (105, 1, .cells [.bool, .nil])]⟩
def spj54 (Sj54 : TSj54) : List Atom -> (V -> List Blk -> Bool) -> Bool := fun a_ c_ => match a_ with
  | [.int n, .bool b] => Sj54 n b (fun r0 r1 => c_ (.ptr 0 0) [⟨105, 1, .cells [.bool r0, .roi .u32 r1]⟩])
  | _ => false
abbrev Fj54 (Sj54 : TSj54) : Fs := mkFs shFj54 (spj54 Sj54)

def shFj72 : FnSh := ⟨[.ptr 0 0, .bool, .roi .u32], [some (105, 1, .cells [.bool, .roi .u32])]⟩
def spj72 (Sj72 : TSj72) : List Atom -> (V -> List Blk -> Bool) -> Bool := fun a_ c_ => match a_ with
  | [.bool neg, .ints m, .bool b, .ints b_1] => Sj72 neg m b b_1 (fun r0 r1 => c_ (.ptr 0 0) [⟨105, 1, .cells [.bool r0, .roi .u32 r1]⟩])
  | _ => false
abbrev Fj72 (Sj72 : TSj72) : Fs := mkFs shFj72 (spj72 Sj72)

def shFj85 : FnSh := ⟨[.ptr 0 0, .int .u64], [some (105, 1, .cells [.bool, .roi .u32])]⟩
def spj85 (Sj85 : TSj85) : List Atom -> (V -> List Blk -> Bool) -> Bool := fun a_ c_ => match a_ with
  | [.int n, .bool b, .ints b_1] => Sj85 n b b_1 (fun r0 r1 => c_ (.ptr 0 0) [⟨105, 1, .cells [.bool r0, .roi .u32 r1]⟩])
  | _ => false
abbrev Fj85 (Sj85 : TSj85) : Fs := mkFs shFj85 (spj85 Sj85)

def shFj156 : FnSh := ⟨[.agg [.litI .i64 53, .litI .i64 (-1022), .litI .i64 1023, .litI .i64 11], .int .u64], []⟩
def spj156 (Sj156 : TSj156) : List Atom -> (V -> List Blk -> Bool) -> Bool := fun a_ c_ => match a_ with
  | [.int bits] => Sj156 bits (fun r0 => c_ (.agg [.int .i64 2, .bool false, .ptr 0 0, .int .i64 0]) [⟨105, 1, .cells [.bool r0, .nil]⟩]) (fun r0 r1 r2 => c_ (.agg [.int .i64 1, .bool r0, .ptr 0 0, .int .i64 (-1074)]) [⟨105, 1, .cells [.bool r1, .roi .u32 r2]⟩]) (fun r0 r1 r2 r3 => c_ (.agg [.int .i64 0, .bool r0, .ptr 0 0, .int .i64 r1]) [⟨105, 1, .cells [.bool r2, .roi .u32 r3]⟩]) (fun r0 r1 r2 => c_ (.agg [.int .i64 0, .bool r0, .ptr 0 0, .int .i64 (-1074)]) [⟨105, 1, .cells [.bool r1, .roi .u32 r2]⟩])
  | _ => false
abbrev Fj156 (Sj156 : TSj156) : Fs := mkFs shFj156 (spj156 Sj156)

def shFj179 : FnSh := ⟨[.agg [.litI .i64 53, .litI .i64 (-1022), .litI .i64 1023, .litI .i64 11]], []⟩
def spj179 (Sj179 : TSj179) : List Atom -> (V -> List Blk -> Bool) -> Bool := fun a_ c_ => match a_ with
  | [] => Sj179 (fun r0 => c_ (.int .u64 r0) [])
  | _ => false
abbrev Fj179 (Sj179 : TSj179) : Fs := mkFs shFj179 (spj179 Sj179)

def shFj167 : FnSh := ⟨[.agg [.litI .i64 53, .litI .i64 (-1022), .litI .i64 1023, .litI .i64 11], .agg [.litI .i64 2, .litB false, .ptr 0 0, .litI .i64 0], .litI .i64 0], [some (105, 1, .cells [.bool, .nil])]⟩
def spj167 (Sj167 : TSj167) : List Atom -> (V -> List Blk -> Bool) -> Bool := fun a_ c_ => match a_ with
  | [.bool b] => Sj167 b (fun r0 r1 => c_ (.tup [.int .u64 r0, .int .i64 r1]) [⟨105, 1, .cells [.bool b, .nil]⟩])
  | _ => false
abbrev Fj167 (Sj167 : TSj167) : Fs := mkFs shFj167 (spj167 Sj167)

def shFj74 : FnSh := ⟨[.agg [.litI .i64 53, .litI .i64 (-1022), .litI .i64 1023, .litI .i64 11], .bool, .int .i64, .int .u64], []⟩
def spj74 (Sj74 : TSj74) : List Atom -> (V -> List Blk -> Bool) -> Bool := fun a_ c_ => match a_ with
  | [.bool neg, .int field, .int frac] => Sj74 neg field frac (fun r0 => c_ (.int .u64 r0) [])
  | _ => false
abbrev Fj74 (Sj74 : TSj74) : Fs := mkFs shFj74 (spj74 Sj74)

def shFj103 : FnSh := ⟨[.agg [.litI .i64 53, .litI .i64 (-1022), .litI .i64 1023, .litI .i64 11], .bool], []⟩
def spj103 (Sj103 : TSj103) : List Atom -> (V -> List Blk -> Bool) -> Bool := fun a_ c_ => match a_ with
  | [.bool neg] => Sj103 neg (fun r0 => c_ (.int .u64 r0) [])
  | _ => false
abbrev Fj103 (Sj103 : TSj103) : Fs := mkFs shFj103 (spj103 Sj103)

def shFj38 : FnSh := ⟨[.ptr 0 0], [some (105, 1, .cells [.bool, .roi .u32])]⟩
def spj38 (Sj38 : TSj38) : List Atom -> (V -> List Blk -> Bool) -> Bool := fun a_ c_ => match a_ with
  | [.bool b, .ints b_1] => Sj38 b b_1 (fun r0 => c_ (.int .i64 r0) [⟨105, 1, .cells [.bool b, .roi .u32 b_1]⟩])
  | _ => false
abbrev Fj38 (Sj38 : TSj38) : Fs := mkFs shFj38 (spj38 Sj38)

def shFj169 : FnSh := ⟨[.agg [.int .i64, .bool, .ptr 0 0, .int .i64]], [some (105, 1, .cells [.bool, .roi .u32])]⟩
def spj169 (Sj169 : TSj169) : List Atom -> (V -> List Blk -> Bool) -> Bool := fun a_ c_ => match a_ with
  | [.int n_0, .bool n_1, .int n_2, .bool b, .ints b_1] => Sj169 n_0 n_1 n_2 b b_1 (fun r0 => c_ (.bool r0) [⟨105, 1, .cells [.bool b, .roi .u32 b_1]⟩])
  | _ => false
abbrev Fj169 (Sj169 : TSj169) : Fs := mkFs shFj169 (spj169 Sj169)

def shFj174 : FnSh := ⟨[.agg [.litI .i64 53, .litI .i64 (-1022), .litI .i64 1023, .litI .i64 11], .bool], []⟩
def spj174 (Sj174 : TSj174) : List Atom -> (V -> List Blk -> Bool) -> Bool := fun a_ c_ => match a_ with
  | [.bool neg] => Sj174 neg (fun r0 => c_ (.int .u64 r0) [])
  | _ => false
abbrev Fj174 (Sj174 : TSj174) : Fs := mkFs shFj174 (spj174 Sj174)

def shFj122 : FnSh := ⟨[.int .u32], []⟩
def spj122 (Sj122 : TSj122) : List Atom -> (V -> List Blk -> Bool) -> Bool := fun a_ c_ => match a_ with
  | [.int x] => Sj122 x (fun r0 => c_ (.int .i64 r0) [])
  | _ => false
abbrev Fj122 (Sj122 : TSj122) : Fs := mkFs shFj122 (spj122 Sj122)

def shFj5 : FnSh := ⟨[.ptr 0 0], [some (105, 1, .cells [.bool, .roi .u32])]⟩
def spj5 (Sj5 : TSj5) : List Atom -> (V -> List Blk -> Bool) -> Bool := fun a_ c_ => match a_ with
  | [.bool b, .ints b_1] => Sj5 b b_1 (fun r0 => c_ (.int .i64 r0) [⟨105, 1, .cells [.bool b, .roi .u32 b_1]⟩])
  | _ => false
abbrev Fj5 (Sj5 : TSj5) : Fs := mkFs shFj5 (spj5 Sj5)

def shFj63 : FnSh := ⟨[.ptr 0 0, .bool, .slw 1], [some (105, 1, .cells [.bool, .nil]), some (127, 1, .ints .u32)]⟩
def spj63 (Sj63 : TSj63) : List Atom -> (V -> List Blk -> Bool) -> Bool := fun a_ c_ => match a_ with
  | [.bool neg, .bool b, .ints b_1] => Sj63 neg b b_1 (fun r0 r1 r2 => c_ (.ptr 0 0) [⟨105, 1, .cells [.bool r0, .sl 1 r1 r2]⟩, ⟨127, 1, .ints .u32 b_1⟩])
  | _ => false
abbrev Fj63 (Sj63 : TSj63) : Fs := mkFs shFj63 (spj63 Sj63)

def shFj9 : FnSh := ⟨[.ptr 0 0, .ptr 1 0], [some (105, 1, .cells [.bool, .nil]), some (105, 1, .cells [.bool, .roi .u32])]⟩
def spj9 (Sj9 : TSj9) : List Atom -> (V -> List Blk -> Bool) -> Bool := fun a_ c_ => match a_ with
  | [.bool b, .bool b_1, .ints b_2] => Sj9 b b_1 b_2 (fun r0 r1 => c_ (.ptr 0 0) [⟨105, 1, .cells [.bool r0, .roi .u32 r1]⟩, ⟨105, 1, .cells [.bool b_1, .roi .u32 b_2]⟩])
  | _ => false
abbrev Fj9 (Sj9 : TSj9) : Fs := mkFs shFj9 (spj9 Sj9)

def shFj137 : FnSh := ⟨[.roi .u32, .int .u64], []⟩
def spj137 (Sj137 : TSj137) : List Atom -> (V -> List Blk -> Bool) -> Bool := fun a_ c_ => match a_ with
  | [.ints m, .int n] => Sj137 m n (fun r0 => c_ (.roi .u32 r0) [])
  | _ => false
abbrev Fj137 (Sj137 : TSj137) : Fs := mkFs shFj137 (spj137 Sj137)

def shFj14 : FnSh := ⟨[.ptr 0 0, .ptr 0 0, .int .u64], [some (105, 1, .cells [.bool, .roi .u32])]⟩
def spj14 (Sj14 : TSj14) : List Atom -> (V -> List Blk -> Bool) -> Bool := fun a_ c_ => match a_ with
  | [.int n, .bool b, .ints b_1] => Sj14 n b b_1 (fun r0 r1 => c_ (.ptr 0 0) [⟨105, 1, .cells [.bool r0, .roi .u32 r1]⟩])
  | _ => false
abbrev Fj14 (Sj14 : TSj14) : Fs := mkFs shFj14 (spj14 Sj14)

def shFj126 : FnSh := ⟨[.roi .u32, .int .u64], []⟩
def spj126 (Sj126 : TSj126) : List Atom -> (V -> List Blk -> Bool) -> Bool := fun a_ c_ => match a_ with
  | [.ints m, .int n] => Sj126 m n (fun r0 => c_ (.roi .u32 r0) [])
  | _ => false
abbrev Fj126 (Sj126 : TSj126) : Fs := mkFs shFj126 (spj126 Sj126)

def shFj36 : FnSh := ⟨[.roi .u32, .roi .u32], []⟩
def spj36 (Sj36 : TSj36) : List Atom -> (V -> List Blk -> Bool) -> Bool := fun a_ c_ => match a_ with
  | [.ints a, .ints b] => Sj36 a b (fun r0 => c_ (.roi .u32 r0) [])
  | _ => false
abbrev Fj36 (Sj36 : TSj36) : Fs := mkFs shFj36 (spj36 Sj36)

def shFj99 : FnSh := ⟨[.roi .u32, .roi .u32], []⟩
def spj99 (Sj99 : TSj99) : List Atom -> (V -> List Blk -> Bool) -> Bool := fun a_ c_ => match a_ with
  | [.ints a, .ints b] => Sj99 a b (fun r0 => c_ (.roi .u32 r0) [])
  | _ => false
abbrev Fj99 (Sj99 : TSj99) : Fs := mkFs shFj99 (spj99 Sj99)

def shFj115 : FnSh := ⟨[.ptr 0 0, .ptr 1 0, .int .u64], [some (105, 1, .cells [.bool, .nil]), some (105, 1, .cells [.bool, .roi .u32])]⟩
def spj115 (Sj115 : TSj115) : List Atom -> (V -> List Blk -> Bool) -> Bool := fun a_ c_ => match a_ with
  | [.int n, .bool b, .bool b_1, .ints b_2] => Sj115 n b b_1 b_2 (fun r0 r1 => c_ (.ptr 0 0) [⟨105, 1, .cells [.bool r0, .roi .u32 r1]⟩, ⟨105, 1, .cells [.bool b_1, .roi .u32 b_2]⟩])
  | _ => false
abbrev Fj115 (Sj115 : TSj115) : Fs := mkFs shFj115 (spj115 Sj115)

def shFj78 : FnSh := ⟨[.ptr 0 0, .ptr 1 0, .int .u64], [some (105, 1, .cells [.bool, .nil]), some (105, 1, .cells [.bool, .roi .u32])]⟩
def spj78 (Sj78 : TSj78) : List Atom -> (V -> List Blk -> Bool) -> Bool := fun a_ c_ => match a_ with
  | [.int n, .bool b, .bool b_1, .ints b_2] => Sj78 n b b_1 b_2 (fun r0 r1 => c_ (.ptr 0 0) [⟨105, 1, .cells [.bool r0, .roi .u32 r1]⟩, ⟨105, 1, .cells [.bool b_1, .roi .u32 b_2]⟩])
  | _ => false
abbrev Fj78 (Sj78 : TSj78) : Fs := mkFs shFj78 (spj78 Sj78)

def shFj75 : FnSh := ⟨[.roi .u32, .roi .u32], []⟩
def spj75 (Sj75 : TSj75) : List Atom -> (V -> List Blk -> Bool) -> Bool := fun a_ c_ => match a_ with
  | [.ints a, .ints b] => Sj75 a b (fun r0 => c_ (.int .i64 r0) [])
  | _ => false
abbrev Fj75 (Sj75 : TSj75) : Fs := mkFs shFj75 (spj75 Sj75)

def shFj57 : FnSh := ⟨[.ptr 0 0, .ptr 1 0, .ptr 2 0, .bool], [some (105, 1, .cells [.bool, .nil]), some (105, 1, .cells [.bool, .roi .u32]), some (105, 1, .cells [.bool, .roi .u32])]⟩
def spj57 (Sj57 : TSj57) : List Atom -> (V -> List Blk -> Bool) -> Bool := fun a_ c_ => match a_ with
  | [.bool turn, .bool b, .bool b_1, .ints b_2, .bool b_3, .ints b_4] => Sj57 turn b b_1 b_2 b_3 b_4 (fun r0 r1 => c_ (.ptr 0 0) [⟨105, 1, .cells [.bool r0, .roi .u32 r1]⟩, ⟨105, 1, .cells [.bool b_1, .roi .u32 b_2]⟩, ⟨105, 1, .cells [.bool b_3, .roi .u32 b_4]⟩])
  | _ => false
abbrev Fj57 (Sj57 : TSj57) : Fs := mkFs shFj57 (spj57 Sj57)

def shFj86 : FnSh := ⟨[.ptr 0 0, .ptr 1 0, .ptr 2 0], [some (105, 1, .cells [.bool, .nil]), some (105, 1, .cells [.bool, .roi .u32]), some (105, 1, .cells [.bool, .roi .u32])]⟩
def spj86 (Sj86 : TSj86) : List Atom -> (V -> List Blk -> Bool) -> Bool := fun a_ c_ => match a_ with
  | [.bool b, .bool b_1, .ints b_2, .bool b_3, .ints b_4] => Sj86 b b_1 b_2 b_3 b_4 (fun r0 r1 => c_ (.ptr 0 0) [⟨105, 1, .cells [.bool r0, .roi .u32 r1]⟩, ⟨105, 1, .cells [.bool b_1, .roi .u32 b_2]⟩, ⟨105, 1, .cells [.bool b_3, .roi .u32 b_4]⟩])
  | _ => false
abbrev Fj86 (Sj86 : TSj86) : Fs := mkFs shFj86 (spj86 Sj86)

def shFj96 : FnSh := ⟨[.ptr 0 0, .int .i64], [some (105, 1, .cells [.bool, .nil])]⟩
def spj96 (Sj96 : TSj96) : List Atom -> (V -> List Blk -> Bool) -> Bool := fun a_ c_ => match a_ with
  | [.int n, .bool b] => Sj96 n b (fun r0 r1 => c_ (.ptr 0 0) [⟨105, 1, .cells [.bool r0, .roi .u32 r1]⟩])
  | _ => false
abbrev Fj96 (Sj96 : TSj96) : Fs := mkFs shFj96 (spj96 Sj96)

def shFj13 : FnSh := ⟨[.int .i64], []⟩
def spj13 (Sj13 : TSj13) : List Atom -> (V -> List Blk -> Bool) -> Bool := fun a_ c_ => match a_ with
  | [.int n] => Sj13 n (fun r0 r1 => c_ (.ptr 0 0) [⟨105, 1, .cells [.bool r0, .roi .u32 r1]⟩])
  | _ => false
abbrev Fj13 (Sj13 : TSj13) : Fs := mkFs shFj13 (spj13 Sj13)

def shFj113 : FnSh := ⟨[.ptr 0 0, .ptr 1 0], [some (105, 1, .cells [.bool, .roi .u32]), some (105, 1, .cells [.bool, .roi .u32])]⟩
def spj113 (Sj113 : TSj113) : List Atom -> (V -> List Blk -> Bool) -> Bool := fun a_ c_ => match a_ with
  | [.bool b, .ints b_1, .bool b_2, .ints b_3] => Sj113 b b_1 b_2 b_3 (fun r0 => c_ (.int .i64 r0) [⟨105, 1, .cells [.bool b, .roi .u32 b_1]⟩, ⟨105, 1, .cells [.bool b_2, .roi .u32 b_3]⟩])
  | _ => false
abbrev Fj113 (Sj113 : TSj113) : Fs := mkFs shFj113 (spj113 Sj113)

def shFj66 : FnSh := ⟨[.ptr 0 0, .int .i64, .litB false], [some (105, 1, .cells [.bool, .roi .u32])]⟩
def spj66 (Sj66 : TSj66) : List Atom -> (V -> List Blk -> Bool) -> Bool := fun a_ c_ => match a_ with
  | [.int s, .bool b, .ints b_1] => Sj66 s b b_1 (fun r0 r3 r4 => c_ (.tup [.ptr 1 0, .int .i64 r0]) [⟨105, 1, .cells [.bool b, .roi .u32 b_1]⟩, ⟨105, 1, .cells [.bool r3, .roi .u32 r4]⟩])
  | _ => false
abbrev Fj66 (Sj66 : TSj66) : Fs := mkFs shFj66 (spj66 Sj66)

def shFj131 : FnSh := ⟨[.ptr 0 0, .int .i64], [some (105, 1, .cells [.bool, .roi .u32])]⟩
def spj131 (Sj131 : TSj131) : List Atom -> (V -> List Blk -> Bool) -> Bool := fun a_ c_ => match a_ with
  | [.int i, .bool b, .ints b_1] => Sj131 i b b_1 (fun r0 => c_ (.int .u64 r0) [⟨105, 1, .cells [.bool b, .roi .u32 b_1]⟩])
  | _ => false
abbrev Fj131 (Sj131 : TSj131) : Fs := mkFs shFj131 (spj131 Sj131)

def shFj22 : FnSh := ⟨[.bool, .ptr 0 0, .int .i64, .litI .i64 0], [some (105, 1, .cells [.bool, .roi .u32])]⟩
def spj22 (Sj22 : TSj22) : List Atom -> (V -> List Blk -> Bool) -> Bool := fun a_ c_ => match a_ with
  | [.bool neg, .int c, .bool b, .ints b_1] => Sj22 neg c b b_1 (fun r0 => c_ (.bool r0) [⟨105, 1, .cells [.bool b, .roi .u32 b_1]⟩])
  | _ => false
abbrev Fj22 (Sj22 : TSj22) : Fs := mkFs shFj22 (spj22 Sj22)

def shFj93 : FnSh := ⟨[.ptr 0 0, .ptr 0 0, .ptr 1 0, .bool], [some (105, 1, .cells [.bool, .roi .u32]), some (105, 1, .cells [.bool, .roi .u32])]⟩
def spj93 (Sj93 : TSj93) : List Atom -> (V -> List Blk -> Bool) -> Bool := fun a_ c_ => match a_ with
  | [.bool turn, .bool b, .ints b_1, .bool b_2, .ints b_3] => Sj93 turn b b_1 b_2 b_3 (fun r0 r1 => c_ (.ptr 0 0) [⟨105, 1, .cells [.bool r0, .roi .u32 r1]⟩, ⟨105, 1, .cells [.bool b_2, .roi .u32 b_3]⟩])
  | _ => false
abbrev Fj93 (Sj93 : TSj93) : Fs := mkFs shFj93 (spj93 Sj93)

def shFj2 : FnSh := ⟨[.ptr 0 0, .ptr 0 0, .ptr 1 0], [some (105, 1, .cells [.bool, .roi .u32]), some (105, 1, .cells [.bool, .roi .u32])]⟩
def spj2 (Sj2 : TSj2) : List Atom -> (V -> List Blk -> Bool) -> Bool := fun a_ c_ => match a_ with
  | [.bool b, .ints b_1, .bool b_2, .ints b_3] => Sj2 b b_1 b_2 b_3 (fun r0 r1 => c_ (.ptr 0 0) [⟨105, 1, .cells [.bool r0, .roi .u32 r1]⟩, ⟨105, 1, .cells [.bool b_2, .roi .u32 b_3]⟩])
  | _ => false
abbrev Fj2 (Sj2 : TSj2) : Fs := mkFs shFj2 (spj2 Sj2)

def shFj12 : FnSh := ⟨[.ptr 0 0, .ptr 0 0, .int .u64], [some (105, 1, .cells [.bool, .roi .u32])]⟩
def spj12 (Sj12 : TSj12) : List Atom -> (V -> List Blk -> Bool) -> Bool := fun a_ c_ => match a_ with
  | [.int n, .bool b, .ints b_1] => Sj12 n b b_1 (fun r0 r1 => c_ (.ptr 0 0) [⟨105, 1, .cells [.bool r0, .roi .u32 r1]⟩])
  | _ => false
abbrev Fj12 (Sj12 : TSj12) : Fs := mkFs shFj12 (spj12 Sj12)

def shFj65 : FnSh := ⟨[.agg [.litI .i64 53, .litI .i64 (-1022), .litI .i64 1023, .litI .i64 11], .bool, .litI .i64 0], []⟩
def spj65 (Sj65 : TSj65) : List Atom -> (V -> List Blk -> Bool) -> Bool := fun a_ c_ => match a_ with
  | [.bool neg] => Sj65 neg (fun r0 => c_ (.int .u64 r0) [])
  | _ => false
abbrev Fj65 (Sj65 : TSj65) : Fs := mkFs shFj65 (spj65 Sj65)

def shFj7 : FnSh := ⟨[.ptr 0 0], [some (105, 1, .cells [.bool, .roi .u32])]⟩
def spj7 (Sj7 : TSj7) : List Atom -> (V -> List Blk -> Bool) -> Bool := fun a_ c_ => match a_ with
  | [.bool b, .ints b_1] => Sj7 b b_1 (fun r0 => c_ (.int .u64 r0) [⟨105, 1, .cells [.bool b, .roi .u32 b_1]⟩])
  | _ => false
abbrev Fj7 (Sj7 : TSj7) : Fs := mkFs shFj7 (spj7 Sj7)

def shFj143 : FnSh := ⟨[.agg [.litI .i64 53, .litI .i64 (-1022), .litI .i64 1023, .litI .i64 11], .bool, .ptr 0 0, .int .i64, .litB false, .litI .i64 0], [some (105, 1, .cells [.bool, .roi .u32])]⟩
def spj143 (Sj143 : TSj143) : List Atom -> (V -> List Blk -> Bool) -> Bool := fun a_ c_ => match a_ with
  | [.bool neg, .int e, .bool b, .ints b_1] => Sj143 neg e b b_1 (fun r0 r1 => c_ (.tup [.int .u64 r0, .int .i64 r1]) [⟨105, 1, .cells [.bool b, .roi .u32 b_1]⟩])
  | _ => false
abbrev Fj143 (Sj143 : TSj143) : Fs := mkFs shFj143 (spj143 Sj143)

def shFj110 : FnSh := ⟨[.agg [.litI .i64 53, .litI .i64 (-1022), .litI .i64 1023, .litI .i64 11], .agg [.int .i64, .bool, .ptr 0 0, .int .i64], .litI .i64 0], [some (105, 1, .cells [.bool, .roi .u32])]⟩
def spj110 (Sj110 : TSj110) : List Atom -> (V -> List Blk -> Bool) -> Bool := fun a_ c_ => match a_ with
  | [.int n_0, .bool n_1, .int n_2, .bool b, .ints b_1] => Sj110 n_0 n_1 n_2 b b_1 (fun r0 r1 => c_ (.tup [.int .u64 r0, .int .i64 r1]) [⟨105, 1, .cells [.bool b, .roi .u32 b_1]⟩])
  | _ => false
abbrev Fj110 (Sj110 : TSj110) : Fs := mkFs shFj110 (spj110 Sj110)

def shFj149 : FnSh := ⟨[.int .u64, .int .i64, .litI .i64 0], []⟩
def spj149 (Sj149 : TSj149) : List Atom -> (V -> List Blk -> Bool) -> Bool := fun a_ c_ => match a_ with
  | [.int x, .int k_] => Sj149 x k_ (fun r0 r1 r2 => c_ (.tup [.int .u64 r0, .int .i64 r1, .int .i64 r2]) [])
  | _ => false
abbrev Fj149 (Sj149 : TSj149) : Fs := mkFs shFj149 (spj149 Sj149)

def shFj151 : FnSh := ⟨[.flt, .int .i64], []⟩
def spj151 (Sj151 : TSj151) : List Atom -> (V -> List Blk -> Bool) -> Bool := fun a_ c_ => match a_ with
  | [.fl x, .int k_] => Sj151 x k_ (fun r0 => c_ (.flt r0) [])
  | _ => false
abbrev Fj151 (Sj151 : TSj151) : Fs := mkFs shFj151 (spj151 Sj151)

def shFj197 : FnSh := ⟨[.rof], []⟩
def spj197 (Sj197 : TSj197) : List Atom -> (V -> List Blk -> Bool) -> Bool := fun a_ c_ => match a_ with
  | [.fls l] => Sj197 l (fun r0 r1 r2 r3 => c_ (.agg [.flt r0, .flt r1, .flt r2, .flt r3]) [])
  | _ => false
abbrev Fj197 (Sj197 : TSj197) : Fs := mkFs shFj197 (spj197 Sj197)

def shFj129 : FnSh := ⟨[.agg [.flt, .flt, .flt, .flt]], []⟩
def spj129 (Sj129 : TSj129) : List Atom -> (V -> List Blk -> Bool) -> Bool := fun a_ c_ => match a_ with
  | [.fl q_0, .fl q_1, .fl q_2, .fl q_3] => Sj129 q_0 q_1 q_2 q_3 (fun r0 r1 r2 r3 r4 => c_ (.tup [.agg [.flt r0, .flt r1, .flt r2, .flt r3], .int .i64 r4]) [])
  | _ => false
abbrev Fj129 (Sj129 : TSj129) : Fs := mkFs shFj129 (spj129 Sj129)

def shFj28 : FnSh := ⟨[.flt, .flt], []⟩
def spj28 (Sj28 : TSj28) : List Atom -> (V -> List Blk -> Bool) -> Bool := fun a_ c_ => match a_ with
  | [.fl a, .fl b] => Sj28 a b (fun r0 => c_ (.bool r0) [])
  | _ => false
abbrev Fj28 (Sj28 : TSj28) : Fs := mkFs shFj28 (spj28 Sj28)

def shFj52 : FnSh := ⟨[.agg [.flt, .flt, .flt, .flt], .int .i64, .agg [.flt, .flt, .flt, .flt], .int .i64], []⟩
def spj52 (Sj52 : TSj52) : List Atom -> (V -> List Blk -> Bool) -> Bool := fun a_ c_ => match a_ with
  | [.fl a_0, .fl a_1, .fl a_2, .fl a_3, .int e, .fl b_0, .fl b_1, .fl b_2, .fl b_3, .int n] => Sj52 a_0 a_1 a_2 a_3 e b_0 b_1 b_2 b_3 n (fun r0 => c_ (.bool r0) [])
  | _ => false
abbrev Fj52 (Sj52 : TSj52) : Fs := mkFs shFj52 (spj52 Sj52)

def shFj159 : FnSh := ⟨[.flt], []⟩
def spj159 (Sj159 : TSj159) : List Atom -> (V -> List Blk -> Bool) -> Bool := fun a_ c_ => match a_ with
  | [.fl x] => Sj159 x (fun r0 => c_ (.int .i64 r0) [])
  | _ => false
abbrev Fj159 (Sj159 : TSj159) : Fs := mkFs shFj159 (spj159 Sj159)

def shFj121 : FnSh := ⟨[.rof], []⟩
def spj121 (Sj121 : TSj121) : List Atom -> (V -> List Blk -> Bool) -> Bool := fun a_ c_ => match a_ with
  | [.fls l] => Sj121 l (fun r0 => c_ (.bool r0) [])
  | _ => false
abbrev Fj121 (Sj121 : TSj121) : Fs := mkFs shFj121 (spj121 Sj121)

def shFj6 : FnSh := ⟨[.int .u64], []⟩
def spj6 (Sj6 : TSj6) : List Atom -> (V -> List Blk -> Bool) -> Bool := fun a_ c_ => match a_ with
  | [.int x] => Sj6 x (fun r0 => c_ (.int .i64 r0) [])
  | _ => false
abbrev Fj6 (Sj6 : TSj6) : Fs := mkFs shFj6 (spj6 Sj6)

def shFj77 : FnSh := ⟨[.int .u64, .agg [.int .u64, .int .i64, .int .i64]], []⟩
def spj77 (Sj77 : TSj77) : List Atom -> (V -> List Blk -> Bool) -> Bool := fun a_ c_ => match a_ with
  | [.int b, .int f_0, .int f_1, .int f_2] => Sj77 b f_0 f_1 f_2 (fun r0 r1 r2 r3 => c_ (.tup [.agg [.bool r0, .int .u64 r1, .int .i64 r2], .int .i64 r3]) [])
  | _ => false
abbrev Fj77 (Sj77 : TSj77) : Fs := mkFs shFj77 (spj77 Sj77)

def shFj181 : FnSh := ⟨[.flt], []⟩
def spj181 (Sj181 : TSj181) : List Atom -> (V -> List Blk -> Bool) -> Bool := fun a_ c_ => match a_ with
  | [.fl x] => Sj181 x (fun r0 r1 r2 r3 => c_ (.tup [.agg [.bool r0, .int .u64 r1, .int .i64 r2], .int .i64 r3]) [])
  | _ => false
abbrev Fj181 (Sj181 : TSj181) : Fs := mkFs shFj181 (spj181 Sj181)

def shFj1 : FnSh := ⟨[.slw 0], [some (41, 1, .ints .u64)]⟩
def spj1 (Sj1 : TSj1) : List Atom -> (V -> List Blk -> Bool) -> Bool := fun a_ c_ => match a_ with
  | [.ints b] => Sj1 b (fun r0 r1 => c_ (.sl 0 r0 r1) [⟨41, 1, .ints .u64 b⟩])
  | _ => false
abbrev Fj1 (Sj1 : TSj1) : Fs := mkFs shFj1 (spj1 Sj1)

def shFj142 : FnSh := ⟨[.int .u64], []⟩
def spj142 (Sj142 : TSj142) : List Atom -> (V -> List Blk -> Bool) -> Bool := fun a_ c_ => match a_ with
  | [.int n] => Sj142 n (fun r0 => c_ (.roi .u64 r0) [])
  | _ => false
abbrev Fj142 (Sj142 : TSj142) : Fs := mkFs shFj142 (spj142 Sj142)

def shFj0 : FnSh := ⟨[.ptr 0 0, .bool, .roi .u64], [some (164, 1, .cells [.bool, .nil])]⟩
def spj0 (Sj0 : TSj0) : List Atom -> (V -> List Blk -> Bool) -> Bool := fun a_ c_ => match a_ with
  | [.bool neg, .ints abs, .bool b] => Sj0 neg abs b (fun r0 => c_ (.ptr 0 0) [⟨164, 1, .cells [.bool r0, .roi .u64 abs]⟩])
  | _ => false
abbrev Fj0 (Sj0 : TSj0) : Fs := mkFs shFj0 (spj0 Sj0)

def shFj56 : FnSh := ⟨[.ptr 0 0, .int .u64], [some (164, 1, .cells [.bool, .nil])]⟩
def spj56 (Sj56 : TSj56) : List Atom -> (V -> List Blk -> Bool) -> Bool := fun a_ c_ => match a_ with
  | [.int n, .bool b] => Sj56 n b (fun r0 r1 => c_ (.ptr 0 0) [⟨164, 1, .cells [.bool r0, .roi .u64 r1]⟩])
  | _ => false
abbrev Fj56 (Sj56 : TSj56) : Fs := mkFs shFj56 (spj56 Sj56)

def shFj82 : FnSh := ⟨[.roi .u64], []⟩
def spj82 (Sj82 : TSj82) : List Atom -> (V -> List Blk -> Bool) -> Bool := fun a_ c_ => match a_ with
  | [.ints x] => Sj82 x (fun r0 => c_ (.roi .u64 r0) [])
  | _ => false
abbrev Fj82 (Sj82 : TSj82) : Fs := mkFs shFj82 (spj82 Sj82)

def shFj33 : FnSh := ⟨[.ptr 0 0, .bool, .roi .u64], [some (164, 1, .cells [.bool, .roi .u64])]⟩
def spj33 (Sj33 : TSj33) : List Atom -> (V -> List Blk -> Bool) -> Bool := fun a_ c_ => match a_ with
  | [.bool neg, .ints abs, .bool b, .ints b_1] => Sj33 neg abs b b_1 (fun r0 => c_ (.ptr 0 0) [⟨164, 1, .cells [.bool r0, .roi .u64 abs]⟩])
  | _ => false
abbrev Fj33 (Sj33 : TSj33) : Fs := mkFs shFj33 (spj33 Sj33)

def shFj26 : FnSh := ⟨[.ptr 0 0, .ptr 0 0], [some (164, 1, .cells [.bool, .roi .u64])]⟩
def spj26 (Sj26 : TSj26) : List Atom -> (V -> List Blk -> Bool) -> Bool := fun a_ c_ => match a_ with
  | [.bool b, .ints b_1] => Sj26 b b_1 (fun r0 r1 => c_ (.ptr 0 0) [⟨164, 1, .cells [.bool r0, .roi .u64 r1]⟩])
  | _ => false
abbrev Fj26 (Sj26 : TSj26) : Fs := mkFs shFj26 (spj26 Sj26)

def shFj175 : FnSh := ⟨[.flt], []⟩
def spj175 (Sj175 : TSj175) : List Atom -> (V -> List Blk -> Bool) -> Bool := fun a_ c_ => match a_ with
  | [.fl x] => Sj175 x (fun r0 r1 r2 => c_ (.agg [.ptr 0 0, .int .i64 r0]) [⟨164, 1, .cells [.bool r1, .roi .u64 r2]⟩])
  | _ => false
abbrev Fj175 (Sj175 : TSj175) : Fs := mkFs shFj175 (spj175 Sj175)

def shFj123 : FnSh := ⟨[.int .u64, .int .u64], []⟩
def spj123 (Sj123 : TSj123) : List Atom -> (V -> List Blk -> Bool) -> Bool := fun a_ c_ => match a_ with
  | [.int x, .int y] => Sj123 x y (fun r0 r1 => c_ (.tup [.int .u64 r0, .int .u64 r1]) [])
  | _ => false
abbrev Fj123 (Sj123 : TSj123) : Fs := mkFs shFj123 (spj123 Sj123)

def shFj79 : FnSh := ⟨[.int .u64, .int .u64, .int .u64], []⟩
def spj79 (Sj79 : TSj79) : List Atom -> (V -> List Blk -> Bool) -> Bool := fun a_ c_ => match a_ with
  | [.int a0, .int a1, .int a2] => Sj79 a0 a1 a2 (fun r0 r1 => c_ (.tup [.int .u64 r0, .int .u64 r1]) [])
  | _ => false
abbrev Fj79 (Sj79 : TSj79) : Fs := mkFs shFj79 (spj79 Sj79)

def shFj118 : FnSh := ⟨[.int .u64, .int .u64, .int .u64, .int .u64], []⟩
def spj118 (Sj118 : TSj118) : List Atom -> (V -> List Blk -> Bool) -> Bool := fun a_ c_ => match a_ with
  | [.int a, .int b, .int c, .int d] => Sj118 a b c d (fun r0 r1 => c_ (.tup [.int .u64 r0, .int .u64 r1]) [])
  | _ => false
abbrev Fj118 (Sj118 : TSj118) : Fs := mkFs shFj118 (spj118 Sj118)

def shFj152 : FnSh := ⟨[.roi .u64, .roi .u64], []⟩
def spj152 (Sj152 : TSj152) : List Atom -> (V -> List Blk -> Bool) -> Bool := fun a_ c_ => match a_ with
  | [.ints x, .ints y] => Sj152 x y (fun r0 => c_ (.roi .u64 r0) [])
  | _ => false
abbrev Fj152 (Sj152 : TSj152) : Fs := mkFs shFj152 (spj152 Sj152)

def shFj58 : FnSh := ⟨[.ptr 0 0, .ptr 1 0, .ptr 2 0], [some (164, 1, .cells [.bool, .nil]), some (164, 1, .cells [.bool, .roi .u64]), some (164, 1, .cells [.bool, .roi .u64])]⟩
def spj58 (Sj58 : TSj58) : List Atom -> (V -> List Blk -> Bool) -> Bool := fun a_ c_ => match a_ with
  | [.bool b, .bool b_1, .ints b_2, .bool b_3, .ints b_4] => Sj58 b b_1 b_2 b_3 b_4 (fun r0 r1 => c_ (.ptr 0 0) [⟨164, 1, .cells [.bool r0, .roi .u64 r1]⟩, ⟨164, 1, .cells [.bool b_1, .roi .u64 b_2]⟩, ⟨164, 1, .cells [.bool b_3, .roi .u64 b_4]⟩])
  | _ => false
abbrev Fj58 (Sj58 : TSj58) : Fs := mkFs shFj58 (spj58 Sj58)

def shFj18 : FnSh := ⟨[.agg [.ptr 0 0, .int .i64], .agg [.ptr 1 0, .int .i64]], [some (164, 1, .cells [.bool, .roi .u64]), some (164, 1, .cells [.bool, .roi .u64])]⟩
def spj18 (Sj18 : TSj18) : List Atom -> (V -> List Blk -> Bool) -> Bool := fun a_ c_ => match a_ with
  | [.int x, .int y, .bool b, .ints b_1, .bool b_2, .ints b_3] => Sj18 x y b b_1 b_2 b_3 (fun r0 r5 r6 => c_ (.agg [.ptr 2 0, .int .i64 r0]) [⟨164, 1, .cells [.bool b, .roi .u64 b_1]⟩, ⟨164, 1, .cells [.bool b_2, .roi .u64 b_3]⟩, ⟨164, 1, .cells [.bool r5, .roi .u64 r6]⟩])
  | _ => false
abbrev Fj18 (Sj18 : TSj18) : Fs := mkFs shFj18 (spj18 Sj18)

def shFj88 : FnSh := ⟨[.ptr 0 0], [some (164, 1, .cells [.bool, .nil])]⟩
def spj88 (Sj88 : TSj88) : List Atom -> (V -> List Blk -> Bool) -> Bool := fun a_ c_ => match a_ with
  | [.bool b] => Sj88 b (fun r0 r2 => c_ (.int .i64 r0) [⟨164, 1, .cells [.bool b, .roi .u64 r2]⟩])
  | _ => false
abbrev Fj88 (Sj88 : TSj88) : Fs := mkFs shFj88 (spj88 Sj88)

def shFj3 : FnSh := ⟨[.ptr 0 0], [some (164, 1, .cells [.bool, .roi .u64])]⟩
def spj3 (Sj3 : TSj3) : List Atom -> (V -> List Blk -> Bool) -> Bool := fun a_ c_ => match a_ with
  | [.bool b, .ints b_1] => Sj3 b b_1 (fun r0 => c_ (.int .i64 r0) [⟨164, 1, .cells [.bool b, .roi .u64 b_1]⟩])
  | _ => false
abbrev Fj3 (Sj3 : TSj3) : Fs := mkFs shFj3 (spj3 Sj3)

def shFj119 : FnSh := ⟨[.roi .u64, .int .u64], []⟩
def spj119 (Sj119 : TSj119) : List Atom -> (V -> List Blk -> Bool) -> Bool := fun a_ c_ => match a_ with
  | [.ints x, .int n] => Sj119 x n (fun r0 => c_ (.roi .u64 r0) [])
  | _ => false
abbrev Fj119 (Sj119 : TSj119) : Fs := mkFs shFj119 (spj119 Sj119)

def shFj73 : FnSh := ⟨[.ptr 0 0, .ptr 1 0, .int .u64], [some (164, 1, .cells [.bool, .nil]), some (164, 1, .cells [.bool, .roi .u64])]⟩
def spj73 (Sj73 : TSj73) : List Atom -> (V -> List Blk -> Bool) -> Bool := fun a_ c_ => match a_ with
  | [.int n, .bool b, .bool b_1, .ints b_2] => Sj73 n b b_1 b_2 (fun r0 r1 => c_ (.ptr 0 0) [⟨164, 1, .cells [.bool r0, .roi .u64 r1]⟩, ⟨164, 1, .cells [.bool b_1, .roi .u64 b_2]⟩])
  | _ => false
abbrev Fj73 (Sj73 : TSj73) : Fs := mkFs shFj73 (spj73 Sj73)

def shFj34 : FnSh := ⟨[.agg [.ptr 0 0, .int .i64], .int .i64], [some (164, 1, .cells [.bool, .roi .u64])]⟩
def spj34 (Sj34 : TSj34) : List Atom -> (V -> List Blk -> Bool) -> Bool := fun a_ c_ => match a_ with
  | [.int x, .int e, .bool b, .ints b_1] => Sj34 x e b b_1 (fun r2 r3 => c_ (.ptr 1 0) [⟨164, 1, .cells [.bool b, .roi .u64 b_1]⟩, ⟨164, 1, .cells [.bool r2, .roi .u64 r3]⟩])
  | _ => false
abbrev Fj34 (Sj34 : TSj34) : Fs := mkFs shFj34 (spj34 Sj34)

def shFj19 : FnSh := ⟨[.roi .u64, .int .i64], []⟩
def spj19 (Sj19 : TSj19) : List Atom -> (V -> List Blk -> Bool) -> Bool := fun a_ c_ => match a_ with
  | [.ints x, .int i] => Sj19 x i (fun r0 => c_ (.int .u64 r0) [])
  | _ => false
abbrev Fj19 (Sj19 : TSj19) : Fs := mkFs shFj19 (spj19 Sj19)

def shFj172 : FnSh := ⟨[.roi .u64, .roi .u64], []⟩
def spj172 (Sj172 : TSj172) : List Atom -> (V -> List Blk -> Bool) -> Bool := fun a_ c_ => match a_ with
  | [.ints x, .ints y] => Sj172 x y (fun r0 => c_ (.roi .u64 r0) [])
  | _ => false
abbrev Fj172 (Sj172 : TSj172) : Fs := mkFs shFj172 (spj172 Sj172)

def shFj130 : FnSh := ⟨[.roi .u64, .roi .u64], []⟩
def spj130 (Sj130 : TSj130) : List Atom -> (V -> List Blk -> Bool) -> Bool := fun a_ c_ => match a_ with
  | [.ints x, .ints y] => Sj130 x y (fun r0 => c_ (.int .i64 r0) [])
  | _ => false
abbrev Fj130 (Sj130 : TSj130) : Fs := mkFs shFj130 (spj130 Sj130)

def shFj109 : FnSh := ⟨[.int .u64, .int .u64, .int .u64], []⟩
def spj109 (Sj109 : TSj109) : List Atom -> (V -> List Blk -> Bool) -> Bool := fun a_ c_ => match a_ with
  | [.int a0, .int a1, .int a2] => Sj109 a0 a1 a2 (fun r0 r1 => c_ (.tup [.int .u64 r0, .int .u64 r1]) [])
  | _ => false
abbrev Fj109 (Sj109 : TSj109) : Fs := mkFs shFj109 (spj109 Sj109)

def shFj178 : FnSh := ⟨[.roi .u64, .roi .u64], []⟩
def spj178 (Sj178 : TSj178) : List Atom -> (V -> List Blk -> Bool) -> Bool := fun a_ c_ => match a_ with
  | [.ints x, .ints y] => Sj178 x y (fun r0 => c_ (.roi .u64 r0) [])
  | _ => false
abbrev Fj178 (Sj178 : TSj178) : Fs := mkFs shFj178 (spj178 Sj178)

def shFj68 : FnSh := ⟨[.ptr 0 0, .ptr 1 0, .bool, .roi .u64], [some (164, 1, .cells [.bool, .nil]), some (164, 1, .cells [.bool, .roi .u64])]⟩
def spj68 (Sj68 : TSj68) : List Atom -> (V -> List Blk -> Bool) -> Bool := fun a_ c_ => match a_ with
  | [.bool neg, .ints y, .bool b, .bool b_1, .ints b_2] => Sj68 neg y b b_1 b_2 (fun r0 r1 => c_ (.ptr 0 0) [⟨164, 1, .cells [.bool r0, .roi .u64 r1]⟩, ⟨164, 1, .cells [.bool b_1, .roi .u64 b_2]⟩])
  | _ => false
abbrev Fj68 (Sj68 : TSj68) : Fs := mkFs shFj68 (spj68 Sj68)

def shFj27 : FnSh := ⟨[.ptr 0 0, .ptr 1 0, .ptr 2 0], [some (164, 1, .cells [.bool, .nil]), some (164, 1, .cells [.bool, .roi .u64]), some (164, 1, .cells [.bool, .roi .u64])]⟩
def spj27 (Sj27 : TSj27) : List Atom -> (V -> List Blk -> Bool) -> Bool := fun a_ c_ => match a_ with
  | [.bool b, .bool b_1, .ints b_2, .bool b_3, .ints b_4] => Sj27 b b_1 b_2 b_3 b_4 (fun r0 r1 => c_ (.ptr 0 0) [⟨164, 1, .cells [.bool r0, .roi .u64 r1]⟩, ⟨164, 1, .cells [.bool b_1, .roi .u64 b_2]⟩, ⟨164, 1, .cells [.bool b_3, .roi .u64 b_4]⟩])
  | _ => false
abbrev Fj27 (Sj27 : TSj27) : Fs := mkFs shFj27 (spj27 Sj27)

def shFj20 : FnSh := ⟨[.agg [.ptr 0 0, .int .i64], .agg [.ptr 1 0, .int .i64]], [some (164, 1, .cells [.bool, .nil]), some (164, 1, .cells [.bool, .roi .u64])]⟩
def spj20 (Sj20 : TSj20) : List Atom -> (V -> List Blk -> Bool) -> Bool := fun a_ c_ => match a_ with
  | [.int x, .int y, .bool b, .bool b_1, .ints b_2] => Sj20 x y b b_1 b_2 (fun r2 => c_ (.agg [.ptr 1 0, .int .i64 y]) [⟨164, 1, .cells [.bool b, .roi .u64 r2]⟩, ⟨164, 1, .cells [.bool b_1, .roi .u64 b_2]⟩]) (fun r2 => c_ (.agg [.ptr 0 0, .int .i64 x]) [⟨164, 1, .cells [.bool b, .roi .u64 r2]⟩, ⟨164, 1, .cells [.bool b_1, .roi .u64 b_2]⟩]) (fun r0 r2 r5 r6 => c_ (.agg [.ptr 2 0, .int .i64 r0]) [⟨164, 1, .cells [.bool b, .roi .u64 r2]⟩, ⟨164, 1, .cells [.bool b_1, .roi .u64 b_2]⟩, ⟨164, 1, .cells [.bool r5, .roi .u64 r6]⟩])
  | _ => false
abbrev Fj20 (Sj20 : TSj20) : Fs := mkFs shFj20 (spj20 Sj20)

def shFj4 : FnSh := ⟨[.agg [.ptr 0 0, .int .i64], .agg [.ptr 1 0, .int .i64]], [some (164, 1, .cells [.bool, .roi .u64]), some (164, 1, .cells [.bool, .roi .u64])]⟩
def spj4 (Sj4 : TSj4) : List Atom -> (V -> List Blk -> Bool) -> Bool := fun a_ c_ => match a_ with
  | [.int x, .int y, .bool b, .ints b_1, .bool b_2, .ints b_3] => Sj4 x y b b_1 b_2 b_3 (c_ (.agg [.ptr 1 0, .int .i64 y]) [⟨164, 1, .cells [.bool b, .roi .u64 b_1]⟩, ⟨164, 1, .cells [.bool b_2, .roi .u64 b_3]⟩]) (c_ (.agg [.ptr 0 0, .int .i64 x]) [⟨164, 1, .cells [.bool b, .roi .u64 b_1]⟩, ⟨164, 1, .cells [.bool b_2, .roi .u64 b_3]⟩]) (fun r0 r5 r6 => c_ (.agg [.ptr 2 0, .int .i64 r0]) [⟨164, 1, .cells [.bool b, .roi .u64 b_1]⟩, ⟨164, 1, .cells [.bool b_2, .roi .u64 b_3]⟩, ⟨164, 1, .cells [.bool r5, .roi .u64 r6]⟩])
  | _ => false
abbrev Fj4 (Sj4 : TSj4) : Fs := mkFs shFj4 (spj4 Sj4)

def shFj37 : FnSh := ⟨[.ptr 0 0, .ptr 1 0], [some (164, 1, .cells [.bool, .nil]), some (164, 1, .cells [.bool, .roi .u64])]⟩
def spj37 (Sj37 : TSj37) : List Atom -> (V -> List Blk -> Bool) -> Bool := fun a_ c_ => match a_ with
  | [.bool b, .bool b_1, .ints b_2] => Sj37 b b_1 b_2 (fun r0 r1 => c_ (.ptr 0 0) [⟨164, 1, .cells [.bool r0, .roi .u64 r1]⟩, ⟨164, 1, .cells [.bool b_1, .roi .u64 b_2]⟩])
  | _ => false
abbrev Fj37 (Sj37 : TSj37) : Fs := mkFs shFj37 (spj37 Sj37)

def shFj59 : FnSh := ⟨[.ptr 0 0, .int .i64], [some (164, 1, .cells [.bool, .roi .u64])]⟩
def spj59 (Sj59 : TSj59) : List Atom -> (V -> List Blk -> Bool) -> Bool := fun a_ c_ => match a_ with
  | [.int i, .bool b, .ints b_1] => Sj59 i b b_1 (fun r0 => c_ (.int .u64 r0) [⟨164, 1, .cells [.bool b, .roi .u64 b_1]⟩])
  | _ => false
abbrev Fj59 (Sj59 : TSj59) : Fs := mkFs shFj59 (spj59 Sj59)

def shFj11 : FnSh := ⟨[.ptr 0 0], [some (164, 1, .cells [.bool, .roi .u64])]⟩
def spj11 (Sj11 : TSj11) : List Atom -> (V -> List Blk -> Bool) -> Bool := fun a_ c_ => match a_ with
  | [.bool b, .ints b_1] => Sj11 b b_1 (fun r0 => c_ (.int .u64 r0) [⟨164, 1, .cells [.bool b, .roi .u64 b_1]⟩])
  | _ => false
abbrev Fj11 (Sj11 : TSj11) : Fs := mkFs shFj11 (spj11 Sj11)

def shFj148 : FnSh := ⟨[.roi .u64, .int .u64], []⟩
def spj148 (Sj148 : TSj148) : List Atom -> (V -> List Blk -> Bool) -> Bool := fun a_ c_ => match a_ with
  | [.ints x, .int n] => Sj148 x n (fun r0 r1 => c_ (.tup [.roi .u64 r0, .bool r1]) [])
  | _ => false
abbrev Fj148 (Sj148 : TSj148) : Fs := mkFs shFj148 (spj148 Sj148)

def shFj17 : FnSh := ⟨[.ptr 0 0, .ptr 0 0, .int .u64], [some (164, 1, .cells [.bool, .roi .u64])]⟩
def spj17 (Sj17 : TSj17) : List Atom -> (V -> List Blk -> Bool) -> Bool := fun a_ c_ => match a_ with
  | [.int n, .bool b, .ints b_1] => Sj17 n b b_1 (fun r0 r1 => c_ (.ptr 0 0) [⟨164, 1, .cells [.bool r0, .roi .u64 r1]⟩])
  | _ => false
abbrev Fj17 (Sj17 : TSj17) : Fs := mkFs shFj17 (spj17 Sj17)

def shFj21 : FnSh := ⟨[.agg [.ptr 0 0, .int .i64]], [some (164, 1, .cells [.bool, .roi .u64])]⟩
def spj21 (Sj21 : TSj21) : List Atom -> (V -> List Blk -> Bool) -> Bool := fun a_ c_ => match a_ with
  | [.int x, .bool b, .ints b_1] => Sj21 x b b_1 (fun r0 r3 r4 => c_ (.agg [.ptr 1 0, .int .i64 r0]) [⟨164, 1, .cells [.bool b, .roi .u64 b_1]⟩, ⟨164, 1, .cells [.bool r3, .roi .u64 r4]⟩])
  | _ => false
abbrev Fj21 (Sj21 : TSj21) : Fs := mkFs shFj21 (spj21 Sj21)

def shFj108 : FnSh := ⟨[.int .u64], []⟩
def spj108 (Sj108 : TSj108) : List Atom -> (V -> List Blk -> Bool) -> Bool := fun a_ c_ => match a_ with
  | [.int x] => Sj108 x (fun r0 => c_ (.int .i64 r0) [])
  | _ => false
abbrev Fj108 (Sj108 : TSj108) : Fs := mkFs shFj108 (spj108 Sj108)

def shFj150 : FnSh := ⟨[.roi .u64], []⟩
def spj150 (Sj150 : TSj150) : List Atom -> (V -> List Blk -> Bool) -> Bool := fun a_ c_ => match a_ with
  | [.ints x] => Sj150 x (fun r0 => c_ (.int .i64 r0) [])
  | _ => false
abbrev Fj150 (Sj150 : TSj150) : Fs := mkFs shFj150 (spj150 Sj150)

def shFj40 : FnSh := ⟨[.ptr 0 0], [some (164, 1, .cells [.bool, .roi .u64])]⟩
def spj40 (Sj40 : TSj40) : List Atom -> (V -> List Blk -> Bool) -> Bool := fun a_ c_ => match a_ with
  | [.bool b, .ints b_1] => Sj40 b b_1 (fun r0 => c_ (.int .i64 r0) [⟨164, 1, .cells [.bool b, .roi .u64 b_1]⟩])
  | _ => false
abbrev Fj40 (Sj40 : TSj40) : Fs := mkFs shFj40 (spj40 Sj40)

def shFj62 : FnSh := ⟨[.ptr 0 0, .int .i64], [some (164, 1, .cells [.bool, .nil])]⟩
def spj62 (Sj62 : TSj62) : List Atom -> (V -> List Blk -> Bool) -> Bool := fun a_ c_ => match a_ with
  | [.int n, .bool b] => Sj62 n b (fun r0 r1 => c_ (.ptr 0 0) [⟨164, 1, .cells [.bool r0, .roi .u64 r1]⟩])
  | _ => false
abbrev Fj62 (Sj62 : TSj62) : Fs := mkFs shFj62 (spj62 Sj62)

def shFj67 : FnSh := ⟨[.int .i64], []⟩
def spj67 (Sj67 : TSj67) : List Atom -> (V -> List Blk -> Bool) -> Bool := fun a_ c_ => match a_ with
  | [.int n] => Sj67 n (fun r0 r1 => c_ (.ptr 0 0) [⟨164, 1, .cells [.bool r0, .roi .u64 r1]⟩])
  | _ => false
abbrev Fj67 (Sj67 : TSj67) : Fs := mkFs shFj67 (spj67 Sj67)

def shFj39 : FnSh := ⟨[.ptr 0 0, .ptr 1 0], [some (164, 1, .cells [.bool, .nil]), some (164, 1, .cells [.bool, .roi .u64])]⟩
def spj39 (Sj39 : TSj39) : List Atom -> (V -> List Blk -> Bool) -> Bool := fun a_ c_ => match a_ with
  | [.bool b, .bool b_1, .ints b_2] => Sj39 b b_1 b_2 (fun r0 r1 => c_ (.ptr 0 0) [⟨164, 1, .cells [.bool r0, .roi .u64 r1]⟩, ⟨164, 1, .cells [.bool b_1, .roi .u64 b_2]⟩])
  | _ => false
abbrev Fj39 (Sj39 : TSj39) : Fs := mkFs shFj39 (spj39 Sj39)

def shFj46 : FnSh := ⟨[.ptr 0 0, .bool, .sl 1], [some (164, 1, .cells [.bool, .nil]), some (41, 1, .ints .u64)]⟩
def spj46 (Sj46 : TSj46) : List Atom -> (V -> List Blk -> Bool) -> Bool := fun a_ c_ => match a_ with
  | [.bool neg, .nat abs_0, .nat abs_1, .bool b, .ints b_1] => Sj46 neg abs_0 abs_1 b b_1 (fun r0 => c_ (.ptr 0 0) [⟨164, 1, .cells [.bool r0, .sl 1 abs_0 abs_1]⟩, ⟨41, 1, .ints .u64 b_1⟩])
  | _ => false
abbrev Fj46 (Sj46 : TSj46) : Fs := mkFs shFj46 (spj46 Sj46)

def shFj25 : FnSh := ⟨[.ptr 0 0, .ptr 1 0, .ptr 2 0], [some (164, 1, .cells [.bool, .nil]), some (164, 1, .cells [.bool, .roi .u64]), some (164, 1, .cells [.bool, .roi .u64])]⟩
def spj25 (Sj25 : TSj25) : List Atom -> (V -> List Blk -> Bool) -> Bool := fun a_ c_ => match a_ with
  | [.bool b, .bool b_1, .ints b_2, .bool b_3, .ints b_4] => Sj25 b b_1 b_2 b_3 b_4 (fun r0 r1 => c_ (.ptr 0 0) [⟨164, 1, .cells [.bool r0, .roi .u64 r1]⟩, ⟨164, 1, .cells [.bool b_1, .roi .u64 b_2]⟩, ⟨164, 1, .cells [.bool b_3, .roi .u64 b_4]⟩])
  | _ => false
abbrev Fj25 (Sj25 : TSj25) : Fs := mkFs shFj25 (spj25 Sj25)

def shFj193 : FnSh := ⟨[.roi .u64], []⟩
def spj193 (Sj193 : TSj193) : List Atom -> (V -> List Blk -> Bool) -> Bool := fun a_ c_ => match a_ with
  | [.ints x] => Sj193 x (fun r0 => c_ (.int .u64 r0) [])
  | _ => false
abbrev Fj193 (Sj193 : TSj193) : Fs := mkFs shFj193 (spj193 Sj193)

def shFj41 : FnSh := ⟨[.ptr 0 0], [some (164, 1, .cells [.bool, .roi .u64])]⟩
def spj41 (Sj41 : TSj41) : List Atom -> (V -> List Blk -> Bool) -> Bool := fun a_ c_ => match a_ with
  | [.bool b, .ints b_1] => Sj41 b b_1 (fun r0 => c_ (.int .u64 r0) [⟨164, 1, .cells [.bool b, .roi .u64 b_1]⟩])
  | _ => false
abbrev Fj41 (Sj41 : TSj41) : Fs := mkFs shFj41 (spj41 Sj41)

def shFj16 : FnSh := ⟨[.agg [.ptr 0 0, .int .i64]], [some (164, 1, .cells [.bool, .roi .u64])]⟩
def spj16 (Sj16 : TSj16) : List Atom -> (V -> List Blk -> Bool) -> Bool := fun a_ c_ => match a_ with
  | [.int x, .bool b, .ints b_1] => Sj16 x b b_1 (fun r0 r1 r2 => c_ (.tup [.agg [.bool r0, .nil, .int .i64 r1], .int .i64 r2]) [⟨164, 1, .cells [.bool b, .roi .u64 b_1]⟩]) (fun r0 r1 r2 r5 => c_ (.tup [.agg [.bool r0, .slw 1, .int .i64 r1], .int .i64 r2]) [⟨164, 1, .cells [.bool b, .roi .u64 b_1]⟩, ⟨127, 1, .ints .u32 r5⟩])
  | _ => false
abbrev Fj16 (Sj16 : TSj16) : Fs := mkFs shFj16 (spj16 Sj16)

def shFj94 : FnSh := ⟨[.rof, .rof], []⟩
def spj94 (Sj94 : TSj94) : List Atom -> (V -> List Blk -> Bool) -> Bool := fun a_ c_ => match a_ with
  | [.fls a, .fls b] => Sj94 a b (fun r0 r1 r2 => c_ (.tup [.agg [.bool r0, .nil, .int .i64 r1], .int .i64 r2]) []) (fun r0 r1 r2 r3 => c_ (.tup [.agg [.bool r0, .slw 0, .int .i64 r1], .int .i64 r2]) [⟨127, 1, .ints .u32 r3⟩])
  | _ => false
abbrev Fj94 (Sj94 : TSj94) : Fs := mkFs shFj94 (spj94 Sj94)

def shFj141 : FnSh := ⟨[.agg [.bool, .roi .u32, .int .i64]], []⟩
def spj141 (Sj141 : TSj141) : List Atom -> (V -> List Blk -> Bool) -> Bool := fun a_ c_ => match a_ with
  | [.bool d_0, .ints d_1, .int d_2] => Sj141 d_0 d_1 d_2 (fun r0 => c_ (.bool r0) [])
  | _ => false
abbrev Fj141 (Sj141 : TSj141) : Fs := mkFs shFj141 (spj141 Sj141)

def shFj48 : FnSh := ⟨[.ptr 0 0, .ptr 0 0, .int .u64], [some (164, 1, .cells [.bool, .nil])]⟩
def spj48 (Sj48 : TSj48) : List Atom -> (V -> List Blk -> Bool) -> Bool := fun a_ c_ => match a_ with
  | [.int n, .bool b] => Sj48 n b (fun r0 r1 => c_ (.ptr 0 0) [⟨164, 1, .cells [.bool r0, .roi .u64 r1]⟩])
  | _ => false
abbrev Fj48 (Sj48 : TSj48) : Fs := mkFs shFj48 (spj48 Sj48)

def shFj47 : FnSh := ⟨[.ptr 0 0, .bool, .sl 1], [some (164, 1, .cells [.bool, .roi .u64]), some (41, 1, .ints .u64)]⟩
def spj47 (Sj47 : TSj47) : List Atom -> (V -> List Blk -> Bool) -> Bool := fun a_ c_ => match a_ with
  | [.bool neg, .nat abs_0, .nat abs_1, .bool b, .ints b_1, .ints b_2] => Sj47 neg abs_0 abs_1 b b_1 b_2 (fun r0 => c_ (.ptr 0 0) [⟨164, 1, .cells [.bool r0, .sl 1 abs_0 abs_1]⟩, ⟨41, 1, .ints .u64 b_2⟩])
  | _ => false
abbrev Fj47 (Sj47 : TSj47) : Fs := mkFs shFj47 (spj47 Sj47)

def shFj31 : FnSh := ⟨[.ptr 0 0, .ptr 0 0, .ptr 1 0], [some (164, 1, .cells [.bool, .roi .u64]), some (164, 1, .cells [.bool, .roi .u64])]⟩
def spj31 (Sj31 : TSj31) : List Atom -> (V -> List Blk -> Bool) -> Bool := fun a_ c_ => match a_ with
  | [.bool b, .ints b_1, .bool b_2, .ints b_3] => Sj31 b b_1 b_2 b_3 (fun r0 r1 => c_ (.ptr 0 0) [⟨164, 1, .cells [.bool r0, .roi .u64 r1]⟩, ⟨164, 1, .cells [.bool b_2, .roi .u64 b_3]⟩])
  | _ => false
abbrev Fj31 (Sj31 : TSj31) : Fs := mkFs shFj31 (spj31 Sj31)

def shFj49 : FnSh := ⟨[.ptr 0 0, .ptr 0 0, .int .u64], [some (164, 1, .cells [.bool, .roi .u64])]⟩
def spj49 (Sj49 : TSj49) : List Atom -> (V -> List Blk -> Bool) -> Bool := fun a_ c_ => match a_ with
  | [.int n, .bool b, .ints b_1] => Sj49 n b b_1 (fun r0 r1 => c_ (.ptr 0 0) [⟨164, 1, .cells [.bool r0, .roi .u64 r1]⟩])
  | _ => false
abbrev Fj49 (Sj49 : TSj49) : Fs := mkFs shFj49 (spj49 Sj49)

def shFj125 : FnSh := ⟨[.agg [.bool, .roi .u32, .int .i64]], []⟩
def spj125 (Sj125 : TSj125) : List Atom -> (V -> List Blk -> Bool) -> Bool := fun a_ c_ => match a_ with
  | [.bool d_0, .ints d_1, .int d_2] => Sj125 d_0 d_1 d_2 (fun r1 r2 => c_ (.agg [.ptr 0 0, .int .i64 d_2]) [⟨164, 1, .cells [.bool r1, .roi .u64 r2]⟩])
  | _ => false
abbrev Fj125 (Sj125 : TSj125) : Fs := mkFs shFj125 (spj125 Sj125)

def shFj45 : FnSh := ⟨[.ptr 0 0, .ptr 1 0], [some (164, 1, .cells [.bool, .nil]), some (164, 1, .cells [.bool, .roi .u64])]⟩
def spj45 (Sj45 : TSj45) : List Atom -> (V -> List Blk -> Bool) -> Bool := fun a_ c_ => match a_ with
  | [.bool b, .bool b_1, .ints b_2] => Sj45 b b_1 b_2 (fun r0 r1 => c_ (.ptr 0 0) [⟨164, 1, .cells [.bool r0, .roi .u64 r1]⟩, ⟨164, 1, .cells [.bool b_1, .roi .u64 b_2]⟩])
  | _ => false
abbrev Fj45 (Sj45 : TSj45) : Fs := mkFs shFj45 (spj45 Sj45)

def shFj80 : FnSh := ⟨[.agg [.ptr 0 0, .int .i64], .agg [.ptr 1 0, .int .i64]], [some (164, 1, .cells [.bool, .roi .u64]), some (164, 1, .cells [.bool, .roi .u64])]⟩
def spj80 (Sj80 : TSj80) : List Atom -> (V -> List Blk -> Bool) -> Bool := fun a_ c_ => match a_ with
  | [.int x, .int y, .bool b, .ints b_1, .bool b_2, .ints b_3] => Sj80 x y b b_1 b_2 b_3 (fun r0 r5 r6 => c_ (.agg [.ptr 2 0, .int .i64 r0]) [⟨164, 1, .cells [.bool b, .roi .u64 b_1]⟩, ⟨164, 1, .cells [.bool b_2, .roi .u64 b_3]⟩, ⟨164, 1, .cells [.bool r5, .roi .u64 r6]⟩]) (c_ (.agg [.ptr 0 0, .int .i64 x]) [⟨164, 1, .cells [.bool b, .roi .u64 b_1]⟩, ⟨164, 1, .cells [.bool b_2, .roi .u64 b_3]⟩])
  | _ => false
abbrev Fj80 (Sj80 : TSj80) : Fs := mkFs shFj80 (spj80 Sj80)

def shFj132 : FnSh := ⟨[.agg [.bool, .roi .u32, .int .i64], .agg [.bool, .roi .u32, .int .i64], .fn 130 []], []⟩
def spj132 (Sj132 : TSj132) : List Atom -> (V -> List Blk -> Bool) -> Bool := fun a_ c_ => match a_ with
  | [.bool a_0, .ints a_1, .int a_2, .bool b_0, .ints b_1, .int b_2] => Sj132 a_0 a_1 a_2 b_0 b_1 b_2 (fun r0 r1 r2 => c_ (.tup [.agg [.bool r0, .nil, .int .i64 r1], .int .i64 r2]) []) (fun r0 r1 r2 r3 => c_ (.tup [.agg [.bool r0, .slw 0, .int .i64 r1], .int .i64 r2]) [⟨127, 1, .ints .u32 r3⟩])
  | _ => false
abbrev Fj132 (Sj132 : TSj132) : Fs := mkFs shFj132 (spj132 Sj132)

def shFj95 : FnSh := ⟨[.agg [.bool, .roi .u32, .int .i64], .agg [.bool, .roi .u32, .int .i64]], []⟩
def spj95 (Sj95 : TSj95) : List Atom -> (V -> List Blk -> Bool) -> Bool := fun a_ c_ => match a_ with
  | [.bool a_0, .ints a_1, .int a_2, .bool b_0, .ints b_1, .int b_2] => Sj95 a_0 a_1 a_2 b_0 b_1 b_2 (fun r0 r1 r2 => c_ (.tup [.agg [.bool r0, .nil, .int .i64 r1], .int .i64 r2]) []) (fun r0 r1 r2 r3 => c_ (.tup [.agg [.bool r0, .slw 0, .int .i64 r1], .int .i64 r2]) [⟨127, 1, .ints .u32 r3⟩])
  | _ => false
abbrev Fj95 (Sj95 : TSj95) : Fs := mkFs shFj95 (spj95 Sj95)

def shFj42 : FnSh := ⟨[.agg [.bool, .roi .u32, .int .i64], .agg [.bool, .roi .u32, .int .i64]], []⟩
def spj42 (Sj42 : TSj42) : List Atom -> (V -> List Blk -> Bool) -> Bool := fun a_ c_ => match a_ with
  | [.bool a_0, .ints a_1, .int a_2, .bool b_0, .ints b_1, .int b_2] => Sj42 a_0 a_1 a_2 b_0 b_1 b_2 (fun r0 r1 => c_ (.tup [.int .i64 r0, .int .i64 r1]) [])
  | _ => false
abbrev Fj42 (Sj42 : TSj42) : Fs := mkFs shFj42 (spj42 Sj42)

def shFj98 : FnSh := ⟨[.agg [.flt, .flt, .flt, .flt]], []⟩
def spj98 (Sj98 : TSj98) : List Atom -> (V -> List Blk -> Bool) -> Bool := fun a_ c_ => match a_ with
  | [.fl q_0, .fl q_1, .fl q_2, .fl q_3] => Sj98 q_0 q_1 q_2 q_3 (fun r0 => c_ (.bool r0) [])
  | _ => false
abbrev Fj98 (Sj98 : TSj98) : Fs := mkFs shFj98 (spj98 Sj98)

def shFj145 : FnSh := ⟨[], []⟩
def spj145 (Sj145 : TSj145) : List Atom -> (V -> List Blk -> Bool) -> Bool := fun a_ c_ => match a_ with
  | [] => Sj145 (fun r0 r1 => c_ (.agg [.ptr 0 0, .int .i64 r0]) [⟨105, 1, .cells [.bool r1, .nil]⟩])
  | _ => false
abbrev Fj145 (Sj145 : TSj145) : Fs := mkFs shFj145 (spj145 Sj145)

def shFj163 : FnSh := ⟨[.int .u64, .int .i64], []⟩
def spj163 (Sj163 : TSj163) : List Atom -> (V -> List Blk -> Bool) -> Bool := fun a_ c_ => match a_ with
  | [.int m, .int e] => Sj163 m e (fun r0 r1 => c_ (.tup [.int .u64 r0, .int .i64 r1]) [])
  | _ => false
abbrev Fj163 (Sj163 : TSj163) : Fs := mkFs shFj163 (spj163 Sj163)

def shFj154 : FnSh := ⟨[.flt], []⟩
def spj154 (Sj154 : TSj154) : List Atom -> (V -> List Blk -> Bool) -> Bool := fun a_ c_ => match a_ with
  | [.fl x] => Sj154 x (fun r0 r1 r2 r3 => c_ (.tup [.agg [.bool r0, .int .u64 r1, .int .i64 r2], .int .i64 r3]) [])
  | _ => false
abbrev Fj154 (Sj154 : TSj154) : Fs := mkFs shFj154 (spj154 Sj154)

def shFj128 : FnSh := ⟨[.ptr 0 0, .bool, .slw 1], [some (105, 1, .cells [.bool, .roi .u32]), some (127, 1, .ints .u32)]⟩
def spj128 (Sj128 : TSj128) : List Atom -> (V -> List Blk -> Bool) -> Bool := fun a_ c_ => match a_ with
  | [.bool neg, .bool b, .ints b_1, .ints b_2] => Sj128 neg b b_1 b_2 (fun r0 r1 r2 => c_ (.ptr 0 0) [⟨105, 1, .cells [.bool r0, .sl 1 r1 r2]⟩, ⟨127, 1, .ints .u32 b_2⟩])
  | _ => false
abbrev Fj128 (Sj128 : TSj128) : Fs := mkFs shFj128 (spj128 Sj128)

def shFj124 : FnSh := ⟨[.ptr 0 0, .ptr 0 0], [some (105, 1, .cells [.bool, .roi .u32])]⟩
def spj124 (Sj124 : TSj124) : List Atom -> (V -> List Blk -> Bool) -> Bool := fun a_ c_ => match a_ with
  | [.bool b, .ints b_1] => Sj124 b b_1 (fun r0 r1 => c_ (.ptr 0 0) [⟨105, 1, .cells [.bool r0, .roi .u32 r1]⟩])
  | _ => false
abbrev Fj124 (Sj124 : TSj124) : Fs := mkFs shFj124 (spj124 Sj124)

def shFj189 : FnSh := ⟨[.flt], []⟩
def spj189 (Sj189 : TSj189) : List Atom -> (V -> List Blk -> Bool) -> Bool := fun a_ c_ => match a_ with
  | [.fl x] => Sj189 x (fun r0 r1 r2 => c_ (.agg [.ptr 0 0, .int .i64 r0]) [⟨105, 1, .cells [.bool r1, .roi .u32 r2]⟩])
  | _ => false
abbrev Fj189 (Sj189 : TSj189) : Fs := mkFs shFj189 (spj189 Sj189)

def shFj153 : FnSh := ⟨[.roi .u32, .roi .u32], []⟩
def spj153 (Sj153 : TSj153) : List Atom -> (V -> List Blk -> Bool) -> Bool := fun a_ c_ => match a_ with
  | [.ints a, .ints b] => Sj153 a b (fun r0 => c_ (.roi .u32 r0) [])
  | _ => false
abbrev Fj153 (Sj153 : TSj153) : Fs := mkFs shFj153 (spj153 Sj153)

def shFj84 : FnSh := ⟨[.ptr 0 0, .ptr 1 0, .ptr 2 0], [some (105, 1, .cells [.bool, .nil]), some (105, 1, .cells [.bool, .roi .u32]), some (105, 1, .cells [.bool, .roi .u32])]⟩
def spj84 (Sj84 : TSj84) : List Atom -> (V -> List Blk -> Bool) -> Bool := fun a_ c_ => match a_ with
  | [.bool b, .bool b_1, .ints b_2, .bool b_3, .ints b_4] => Sj84 b b_1 b_2 b_3 b_4 (fun r0 r1 => c_ (.ptr 0 0) [⟨105, 1, .cells [.bool r0, .roi .u32 r1]⟩, ⟨105, 1, .cells [.bool b_1, .roi .u32 b_2]⟩, ⟨105, 1, .cells [.bool b_3, .roi .u32 b_4]⟩])
  | _ => false
abbrev Fj84 (Sj84 : TSj84) : Fs := mkFs shFj84 (spj84 Sj84)

def shFj24 : FnSh := ⟨[.agg [.ptr 0 0, .int .i64], .agg [.ptr 1 0, .int .i64]], [some (105, 1, .cells [.bool, .roi .u32]), some (105, 1, .cells [.bool, .roi .u32])]⟩
def spj24 (Sj24 : TSj24) : List Atom -> (V -> List Blk -> Bool) -> Bool := fun a_ c_ => match a_ with
  | [.int x, .int y, .bool b, .ints b_1, .bool b_2, .ints b_3] => Sj24 x y b b_1 b_2 b_3 (fun r0 r5 r6 => c_ (.agg [.ptr 2 0, .int .i64 r0]) [⟨105, 1, .cells [.bool b, .roi .u32 b_1]⟩, ⟨105, 1, .cells [.bool b_2, .roi .u32 b_3]⟩, ⟨105, 1, .cells [.bool r5, .roi .u32 r6]⟩])
  | _ => false
abbrev Fj24 (Sj24 : TSj24) : Fs := mkFs shFj24 (spj24 Sj24)

def shFj135 : FnSh := ⟨[.ptr 0 0], [some (105, 1, .cells [.bool, .nil])]⟩
def spj135 (Sj135 : TSj135) : List Atom -> (V -> List Blk -> Bool) -> Bool := fun a_ c_ => match a_ with
  | [.bool b] => Sj135 b (fun r0 r2 => c_ (.int .i64 r0) [⟨105, 1, .cells [.bool b, .roi .u32 r2]⟩])
  | _ => false
abbrev Fj135 (Sj135 : TSj135) : Fs := mkFs shFj135 (spj135 Sj135)

def shFj32 : FnSh := ⟨[.agg [.ptr 0 0, .int .i64], .int .i64], [some (105, 1, .cells [.bool, .roi .u32])]⟩
def spj32 (Sj32 : TSj32) : List Atom -> (V -> List Blk -> Bool) -> Bool := fun a_ c_ => match a_ with
  | [.int x, .int e, .bool b, .ints b_1] => Sj32 x e b b_1 (c_ (.agg [.ptr 0 0, .int .i64 x]) [⟨105, 1, .cells [.bool b, .roi .u32 b_1]⟩]) (fun r3 r4 => c_ (.agg [.ptr 1 0, .int .i64 e]) [⟨105, 1, .cells [.bool b, .roi .u32 b_1]⟩, ⟨105, 1, .cells [.bool r3, .roi .u32 r4]⟩])
  | _ => false
abbrev Fj32 (Sj32 : TSj32) : Fs := mkFs shFj32 (spj32 Sj32)

def shFj51 : FnSh := ⟨[.ptr 0 0, .ptr 1 0, .ptr 2 0], [some (105, 1, .cells [.bool, .nil]), some (105, 1, .cells [.bool, .roi .u32]), some (105, 1, .cells [.bool, .roi .u32])]⟩
def spj51 (Sj51 : TSj51) : List Atom -> (V -> List Blk -> Bool) -> Bool := fun a_ c_ => match a_ with
  | [.bool b, .bool b_1, .ints b_2, .bool b_3, .ints b_4] => Sj51 b b_1 b_2 b_3 b_4 (fun r0 r1 => c_ (.ptr 0 0) [⟨105, 1, .cells [.bool r0, .roi .u32 r1]⟩, ⟨105, 1, .cells [.bool b_1, .roi .u32 b_2]⟩, ⟨105, 1, .cells [.bool b_3, .roi .u32 b_4]⟩])
  | _ => false
abbrev Fj51 (Sj51 : TSj51) : Fs := mkFs shFj51 (spj51 Sj51)

def shFj23 : FnSh := ⟨[.agg [.ptr 0 0, .int .i64], .agg [.ptr 1 0, .int .i64]], [some (105, 1, .cells [.bool, .nil]), some (105, 1, .cells [.bool, .roi .u32])]⟩
def spj23 (Sj23 : TSj23) : List Atom -> (V -> List Blk -> Bool) -> Bool := fun a_ c_ => match a_ with
  | [.int x, .int y, .bool b, .bool b_1, .ints b_2] => Sj23 x y b b_1 b_2 (fun r2 => c_ (.agg [.ptr 1 0, .int .i64 y]) [⟨105, 1, .cells [.bool b, .roi .u32 r2]⟩, ⟨105, 1, .cells [.bool b_1, .roi .u32 b_2]⟩]) (fun r2 => c_ (.agg [.ptr 0 0, .int .i64 x]) [⟨105, 1, .cells [.bool b, .roi .u32 r2]⟩, ⟨105, 1, .cells [.bool b_1, .roi .u32 b_2]⟩]) (fun r0 r2 r5 r6 => c_ (.agg [.ptr 2 0, .int .i64 r0]) [⟨105, 1, .cells [.bool b, .roi .u32 r2]⟩, ⟨105, 1, .cells [.bool b_1, .roi .u32 b_2]⟩, ⟨105, 1, .cells [.bool r5, .roi .u32 r6]⟩])
  | _ => false
abbrev Fj23 (Sj23 : TSj23) : Fs := mkFs shFj23 (spj23 Sj23)

def shFj8 : FnSh := ⟨[.agg [.ptr 0 0, .int .i64], .agg [.ptr 1 0, .int .i64]], [some (105, 1, .cells [.bool, .roi .u32]), some (105, 1, .cells [.bool, .roi .u32])]⟩
def spj8 (Sj8 : TSj8) : List Atom -> (V -> List Blk -> Bool) -> Bool := fun a_ c_ => match a_ with
  | [.int x, .int y, .bool b, .ints b_1, .bool b_2, .ints b_3] => Sj8 x y b b_1 b_2 b_3 (c_ (.agg [.ptr 1 0, .int .i64 y]) [⟨105, 1, .cells [.bool b, .roi .u32 b_1]⟩, ⟨105, 1, .cells [.bool b_2, .roi .u32 b_3]⟩]) (c_ (.agg [.ptr 0 0, .int .i64 x]) [⟨105, 1, .cells [.bool b, .roi .u32 b_1]⟩, ⟨105, 1, .cells [.bool b_2, .roi .u32 b_3]⟩]) (fun r0 r5 r6 => c_ (.agg [.ptr 2 0, .int .i64 r0]) [⟨105, 1, .cells [.bool b, .roi .u32 b_1]⟩, ⟨105, 1, .cells [.bool b_2, .roi .u32 b_3]⟩, ⟨105, 1, .cells [.bool r5, .roi .u32 r6]⟩])
  | _ => false
abbrev Fj8 (Sj8 : TSj8) : Fs := mkFs shFj8 (spj8 Sj8)

def shFj191 : FnSh := ⟨[.rof, .rof], []⟩
def spj191 (Sj191 : TSj191) : List Atom -> (V -> List Blk -> Bool) -> Bool := fun a_ c_ => match a_ with
  | [.fls a, .fls b] => Sj191 a b (fun r0 r1 r2 => c_ (.agg [.ptr 0 0, .int .i64 r0]) [⟨105, 1, .cells [.bool r1, .roi .u32 r2]⟩])
  | _ => false
abbrev Fj191 (Sj191 : TSj191) : Fs := mkFs shFj191 (spj191 Sj191)

def shFj171 : FnSh := ⟨[.int .i64], []⟩
def spj171 (Sj171 : TSj171) : List Atom -> (V -> List Blk -> Bool) -> Bool := fun a_ c_ => match a_ with
  | [.int n] => Sj171 n (fun r0 r1 r2 => c_ (.agg [.ptr 0 0, .int .i64 r0]) [⟨105, 1, .cells [.bool r1, .roi .u32 r2]⟩])
  | _ => false
abbrev Fj171 (Sj171 : TSj171) : Fs := mkFs shFj171 (spj171 Sj171)

def shFj112 : FnSh := ⟨[.ptr 0 0, .ptr 1 0], [some (105, 1, .cells [.bool, .nil]), some (105, 1, .cells [.bool, .roi .u32])]⟩
def spj112 (Sj112 : TSj112) : List Atom -> (V -> List Blk -> Bool) -> Bool := fun a_ c_ => match a_ with
  | [.bool b, .bool b_1, .ints b_2] => Sj112 b b_1 b_2 (fun r0 r1 => c_ (.ptr 0 0) [⟨105, 1, .cells [.bool r0, .roi .u32 r1]⟩, ⟨105, 1, .cells [.bool b_1, .roi .u32 b_2]⟩])
  | _ => false
abbrev Fj112 (Sj112 : TSj112) : Fs := mkFs shFj112 (spj112 Sj112)

def shFj61 : FnSh := ⟨[.agg [.ptr 0 0, .int .i64]], [some (105, 1, .cells [.bool, .roi .u32])]⟩
def spj61 (Sj61 : TSj61) : List Atom -> (V -> List Blk -> Bool) -> Bool := fun a_ c_ => match a_ with
  | [.int x, .bool b, .ints b_1] => Sj61 x b b_1 (fun r3 r4 => c_ (.agg [.ptr 1 0, .int .i64 x]) [⟨105, 1, .cells [.bool b, .roi .u32 b_1]⟩, ⟨105, 1, .cells [.bool r3, .roi .u32 r4]⟩])
  | _ => false
abbrev Fj61 (Sj61 : TSj61) : Fs := mkFs shFj61 (spj61 Sj61)

def shFj133 : FnSh := ⟨[.agg [.flt, .flt, .flt, .flt]], []⟩
def spj133 (Sj133 : TSj133) : List Atom -> (V -> List Blk -> Bool) -> Bool := fun a_ c_ => match a_ with
  | [.fl q_0, .fl q_1, .fl q_2, .fl q_3] => Sj133 q_0 q_1 q_2 q_3 (fun r0 r1 r2 => c_ (.agg [.ptr 0 0, .int .i64 r0]) [⟨105, 1, .cells [.bool r1, .roi .u32 r2]⟩])
  | _ => false
abbrev Fj133 (Sj133 : TSj133) : Fs := mkFs shFj133 (spj133 Sj133)

def shFj170 : FnSh := ⟨[.int .i64], []⟩
def spj170 (Sj170 : TSj170) : List Atom -> (V -> List Blk -> Bool) -> Bool := fun a_ c_ => match a_ with
  | [.int e] => Sj170 e (fun r1 r2 => c_ (.agg [.ptr 0 0, .int .i64 e]) [⟨105, 1, .cells [.bool r1, .roi .u32 r2]⟩])
  | _ => false
abbrev Fj170 (Sj170 : TSj170) : Fs := mkFs shFj170 (spj170 Sj170)

def shFj114 : FnSh := ⟨[.ptr 0 0, .ptr 1 0], [some (105, 1, .cells [.bool, .nil]), some (105, 1, .cells [.bool, .roi .u32])]⟩
def spj114 (Sj114 : TSj114) : List Atom -> (V -> List Blk -> Bool) -> Bool := fun a_ c_ => match a_ with
  | [.bool b, .bool b_1, .ints b_2] => Sj114 b b_1 b_2 (fun r0 r1 => c_ (.ptr 0 0) [⟨105, 1, .cells [.bool r0, .roi .u32 r1]⟩, ⟨105, 1, .cells [.bool b_1, .roi .u32 b_2]⟩])
  | _ => false
abbrev Fj114 (Sj114 : TSj114) : Fs := mkFs shFj114 (spj114 Sj114)

def shFj70 : FnSh := ⟨[.agg [.ptr 0 0, .int .i64]], [some (105, 1, .cells [.bool, .roi .u32])]⟩
def spj70 (Sj70 : TSj70) : List Atom -> (V -> List Blk -> Bool) -> Bool := fun a_ c_ => match a_ with
  | [.int x, .bool b, .ints b_1] => Sj70 x b b_1 (fun r3 r4 => c_ (.agg [.ptr 1 0, .int .i64 x]) [⟨105, 1, .cells [.bool b, .roi .u32 b_1]⟩, ⟨105, 1, .cells [.bool r3, .roi .u32 r4]⟩])
  | _ => false
abbrev Fj70 (Sj70 : TSj70) : Fs := mkFs shFj70 (spj70 Sj70)

def shFj53 : FnSh := ⟨[.agg [.ptr 0 0, .int .i64], .agg [.ptr 1 0, .int .i64]], [some (105, 1, .cells [.bool, .roi .u32]), some (105, 1, .cells [.bool, .roi .u32])]⟩
def spj53 (Sj53 : TSj53) : List Atom -> (V -> List Blk -> Bool) -> Bool := fun a_ c_ => match a_ with
  | [.int x, .int y, .bool b, .ints b_1, .bool b_2, .ints b_3] => Sj53 x y b b_1 b_2 b_3 (fun r0 => c_ (.int .i64 r0) [⟨105, 1, .cells [.bool b, .roi .u32 b_1]⟩, ⟨105, 1, .cells [.bool b_2, .roi .u32 b_3]⟩])
  | _ => false
abbrev Fj53 (Sj53 : TSj53) : Fs := mkFs shFj53 (spj53 Sj53)

def shFj158 : FnSh := ⟨[.agg [.flt, .flt, .flt, .flt]], []⟩
def spj158 (Sj158 : TSj158) : List Atom -> (V -> List Blk -> Bool) -> Bool := fun a_ c_ => match a_ with
  | [.fl q_0, .fl q_1, .fl q_2, .fl q_3] => Sj158 q_0 q_1 q_2 q_3 (fun r0 => c_ (.bool r0) [])
  | _ => false
abbrev Fj158 (Sj158 : TSj158) : Fs := mkFs shFj158 (spj158 Sj158)

def shFj147 : FnSh := ⟨[.agg [.flt, .flt, .flt], .agg [.flt, .flt, .flt]], []⟩
def spj147 (Sj147 : TSj147) : List Atom -> (V -> List Blk -> Bool) -> Bool := fun a_ c_ => match a_ with
  | [.fl a_0, .fl a_1, .fl a_2, .fl b_0, .fl b_1, .fl b_2] => Sj147 a_0 a_1 a_2 b_0 b_1 b_2 (fun r0 r1 r2 => c_ (.agg [.flt r0, .flt r1, .flt r2]) [])
  | _ => false
abbrev Fj147 (Sj147 : TSj147) : Fs := mkFs shFj147 (spj147 Sj147)

def shFj184 : FnSh := ⟨[.agg [.flt, .flt, .flt]], []⟩
def spj184 (Sj184 : TSj184) : List Atom -> (V -> List Blk -> Bool) -> Bool := fun a_ c_ => match a_ with
  | [.fl v_0, .fl v_1, .fl v_2] => Sj184 v_0 v_1 v_2 (fun r0 r1 r2 r3 => c_ (.tup [.agg [.flt r0, .flt r1, .flt r2], .int .i64 r3]) [])
  | _ => false
abbrev Fj184 (Sj184 : TSj184) : Fs := mkFs shFj184 (spj184 Sj184)

def shFj168 : FnSh := ⟨[.agg [.flt, .flt, .flt, .flt], .agg [.flt, .flt, .flt]], []⟩
def spj168 (Sj168 : TSj168) : List Atom -> (V -> List Blk -> Bool) -> Bool := fun a_ c_ => match a_ with
  | [.fl q_0, .fl q_1, .fl q_2, .fl q_3, .fl v_0, .fl v_1, .fl v_2] => Sj168 q_0 q_1 q_2 q_3 v_0 v_1 v_2 (fun r0 r1 r2 r3 => c_ (.tup [.agg [.flt r0, .flt r1, .flt r2], .int .i64 r3]) [])
  | _ => false
abbrev Fj168 (Sj168 : TSj168) : Fs := mkFs shFj168 (spj168 Sj168)

def shFj90 : FnSh := ⟨[.ro 4 [.flt, .flt, .flt, .flt, .flt, .flt, .flt, .flt]], []⟩
def spj90 (Sj90 : TSj90) : List Atom -> (V -> List Blk -> Bool) -> Bool := fun a_ c_ => match a_ with
  | [.fl qs_0, .fl qs_1, .fl qs_2, .fl qs_3, .fl qs_4, .fl qs_5, .fl qs_6, .fl qs_7] => Sj90 qs_0 qs_1 qs_2 qs_3 qs_4 qs_5 qs_6 qs_7 (fun r0 => c_ (.bool r0) [])
  | _ => false
abbrev Fj90 (Sj90 : TSj90) : Fs := mkFs shFj90 (spj90 Sj90)

def shFj183 : FnSh := ⟨[.agg [.flt, .flt, .flt, .flt], .agg [.flt, .flt, .flt, .flt]], []⟩
def spj183 (Sj183 : TSj183) : List Atom -> (V -> List Blk -> Bool) -> Bool := fun a_ c_ => match a_ with
  | [.fl a_0, .fl a_1, .fl a_2, .fl a_3, .fl b_0, .fl b_1, .fl b_2, .fl b_3] => Sj183 a_0 a_1 a_2 a_3 b_0 b_1 b_2 b_3 (fun r0 r1 r2 r3 => c_ (.agg [.flt r0, .flt r1, .flt r2, .flt r3]) [])
  | _ => false
abbrev Fj183 (Sj183 : TSj183) : Fs := mkFs shFj183 (spj183 Sj183)

def shFj165 : FnSh := ⟨[.agg [.flt, .flt, .flt, .flt]], []⟩
def spj165 (Sj165 : TSj165) : List Atom -> (V -> List Blk -> Bool) -> Bool := fun a_ c_ => match a_ with
  | [.fl q_0, .fl q_1, .fl q_2, .fl q_3] => Sj165 q_0 q_1 q_2 q_3 (fun r0 r1 r2 r3 r4 => c_ (.tup [.agg [.flt r0, .flt r1, .flt r2, .flt r3], .int .i64 r4]) [])
  | _ => false
abbrev Fj165 (Sj165 : TSj165) : Fs := mkFs shFj165 (spj165 Sj165)

def shFj111 : FnSh := ⟨[.agg [.flt, .flt, .flt, .flt], .agg [.flt, .flt, .flt, .flt]], []⟩
def spj111 (Sj111 : TSj111) : List Atom -> (V -> List Blk -> Bool) -> Bool := fun a_ c_ => match a_ with
  | [.fl a_0, .fl a_1, .fl a_2, .fl a_3, .fl b_0, .fl b_1, .fl b_2, .fl b_3] => Sj111 a_0 a_1 a_2 a_3 b_0 b_1 b_2 b_3 (fun r0 r1 r2 r3 r4 => c_ (.tup [.agg [.flt r0, .flt r1, .flt r2, .flt r3], .int .i64 r4]) [])
  | _ => false
abbrev Fj111 (Sj111 : TSj111) : Fs := mkFs shFj111 (spj111 Sj111)

def shFj91 : FnSh := ⟨[], []⟩
def spj91 (Sj91 : TSj91) : List Atom -> (V -> List Blk -> Bool) -> Bool := fun a_ c_ => match a_ with
  | [] => Sj91 (fun r0 r1 r2 r3 => c_ (.agg [.flt r0, .flt r1, .flt r2, .flt r3]) [])
  | _ => false
abbrev Fj91 (Sj91 : TSj91) : Fs := mkFs shFj91 (spj91 Sj91)

def shFj55 : FnSh := ⟨[], []⟩
def spj55 (Sj55 : TSj55) : List Atom -> (V -> List Blk -> Bool) -> Bool := fun a_ c_ => match a_ with
  | [] => Sj55 (fun r0 => c_ (.bool r0) [])
  | _ => false
abbrev Fj55 (Sj55 : TSj55) : Fs := mkFs shFj55 (spj55 Sj55)

def shFj139 : FnSh := ⟨[.agg [.flt, .flt, .flt, .flt]], []⟩
def spj139 (Sj139 : TSj139) : List Atom -> (V -> List Blk -> Bool) -> Bool := fun a_ c_ => match a_ with
  | [.fl q_0, .fl q_1, .fl q_2, .fl q_3] => Sj139 q_0 q_1 q_2 q_3 (fun r0 r1 r2 r3 r4 => c_ (.tup [.agg [.flt r0, .flt r1, .flt r2, .flt r3], .int .i64 r4]) [])
  | _ => false
abbrev Fj139 (Sj139 : TSj139) : Fs := mkFs shFj139 (spj139 Sj139)

def shFj161 : FnSh := ⟨[.agg [.flt, .flt, .flt, .flt]], []⟩
def spj161 (Sj161 : TSj161) : List Atom -> (V -> List Blk -> Bool) -> Bool := fun a_ c_ => match a_ with
  | [.fl q_0, .fl q_1, .fl q_2, .fl q_3] => Sj161 q_0 q_1 q_2 q_3 (fun r0 r1 r2 r3 r4 => c_ (.tup [.agg [.flt r0, .flt r1, .flt r2, .flt r3], .int .i64 r4]) [])
  | _ => false
abbrev Fj161 (Sj161 : TSj161) : Fs := mkFs shFj161 (spj161 Sj161)

def shFj71 : FnSh := ⟨[.ro 1 [.bool, .bool]], []⟩
def spj71 (Sj71 : TSj71) : List Atom -> (V -> List Blk -> Bool) -> Bool := fun a_ c_ => match a_ with
  | [.bool ok_0, .bool ok_1] => Sj71 ok_0 ok_1 (fun r0 => c_ (.int .i64 r0) [])
  | _ => false
abbrev Fj71 (Sj71 : TSj71) : Fs := mkFs shFj71 (spj71 Sj71)

def shFj134 : FnSh := ⟨[.agg [.flt, .flt, .flt, .flt], .agg [.flt, .flt, .flt, .flt]], []⟩
def spj134 (Sj134 : TSj134) : List Atom -> (V -> List Blk -> Bool) -> Bool := fun a_ c_ => match a_ with
  | [.fl a_0, .fl a_1, .fl a_2, .fl a_3, .fl b_0, .fl b_1, .fl b_2, .fl b_3] => Sj134 a_0 a_1 a_2 a_3 b_0 b_1 b_2 b_3 (fun r0 r1 r2 r3 => c_ (.agg [.flt r0, .flt r1, .flt r2, .flt r3]) [])
  | _ => false
abbrev Fj134 (Sj134 : TSj134) : Fs := mkFs shFj134 (spj134 Sj134)

def shFj185 : FnSh := ⟨[.agg [.flt, .flt, .flt, .flt]], []⟩
def spj185 (Sj185 : TSj185) : List Atom -> (V -> List Blk -> Bool) -> Bool := fun a_ c_ => match a_ with
  | [.fl q_0, .fl q_1, .fl q_2, .fl q_3] => Sj185 q_0 q_1 q_2 q_3 (fun r0 r1 r2 r3 r4 => c_ (.tup [.agg [.flt r0, .flt r1, .flt r2, .flt r3], .int .i64 r4]) [])
  | _ => false
abbrev Fj185 (Sj185 : TSj185) : Fs := mkFs shFj185 (spj185 Sj185)

def shFj157 : FnSh := ⟨[.agg [.flt, .flt, .flt, .flt], .agg [.flt, .flt, .flt, .flt]], []⟩
def spj157 (Sj157 : TSj157) : List Atom -> (V -> List Blk -> Bool) -> Bool := fun a_ c_ => match a_ with
  | [.fl a_0, .fl a_1, .fl a_2, .fl a_3, .fl b_0, .fl b_1, .fl b_2, .fl b_3] => Sj157 a_0 a_1 a_2 a_3 b_0 b_1 b_2 b_3 (fun r0 r1 r2 r3 r4 => c_ (.tup [.agg [.flt r0, .flt r1, .flt r2, .flt r3], .int .i64 r4]) [])
  | _ => false
abbrev Fj157 (Sj157 : TSj157) : Fs := mkFs shFj157 (spj157 Sj157)

def shFj140 : FnSh := ⟨[.agg [.flt, .flt, .flt, .flt], .agg [.flt, .flt, .flt, .flt]], []⟩
def spj140 (Sj140 : TSj140) : List Atom -> (V -> List Blk -> Bool) -> Bool := fun a_ c_ => match a_ with
  | [.fl a_0, .fl a_1, .fl a_2, .fl a_3, .fl b_0, .fl b_1, .fl b_2, .fl b_3] => Sj140 a_0 a_1 a_2 a_3 b_0 b_1 b_2 b_3 (fun r0 r1 r2 r3 r4 => c_ (.tup [.agg [.flt r0, .flt r1, .flt r2, .flt r3], .int .i64 r4]) [])
  | _ => false
abbrev Fj140 (Sj140 : TSj140) : Fs := mkFs shFj140 (spj140 Sj140)

def shFj162 : FnSh := ⟨[.agg [.flt, .flt, .flt, .flt], .agg [.flt, .flt, .flt, .flt]], []⟩
def spj162 (Sj162 : TSj162) : List Atom -> (V -> List Blk -> Bool) -> Bool := fun a_ c_ => match a_ with
  | [.fl a_0, .fl a_1, .fl a_2, .fl a_3, .fl b_0, .fl b_1, .fl b_2, .fl b_3] => Sj162 a_0 a_1 a_2 a_3 b_0 b_1 b_2 b_3 (fun r0 r1 r2 r3 r4 => c_ (.tup [.agg [.flt r0, .flt r1, .flt r2, .flt r3], .int .i64 r4]) [])
  | _ => false
abbrev Fj162 (Sj162 : TSj162) : Fs := mkFs shFj162 (spj162 Sj162)

def shFj160 : FnSh := ⟨[.agg [.flt, .flt, .flt, .flt], .agg [.flt, .flt, .flt, .flt]], []⟩
def spj160 (Sj160 : TSj160) : List Atom -> (V -> List Blk -> Bool) -> Bool := fun a_ c_ => match a_ with
  | [.fl a_0, .fl a_1, .fl a_2, .fl a_3, .fl b_0, .fl b_1, .fl b_2, .fl b_3] => Sj160 a_0 a_1 a_2 a_3 b_0 b_1 b_2 b_3 (fun r0 r1 => c_ (.tup [.flt r0, .int .i64 r1]) [])
  | _ => false
abbrev Fj160 (Sj160 : TSj160) : Fs := mkFs shFj160 (spj160 Sj160)

def shFj186 : FnSh := ⟨[.agg [.flt, .flt, .flt, .flt], .agg [.flt, .flt, .flt, .flt]], []⟩
def spj186 (Sj186 : TSj186) : List Atom -> (V -> List Blk -> Bool) -> Bool := fun a_ c_ => match a_ with
  | [.fl a_0, .fl a_1, .fl a_2, .fl a_3, .fl b_0, .fl b_1, .fl b_2, .fl b_3] => Sj186 a_0 a_1 a_2 a_3 b_0 b_1 b_2 b_3 (fun r0 r1 => c_ (.tup [.flt r0, .int .i64 r1]) [])
  | _ => false
abbrev Fj186 (Sj186 : TSj186) : Fs := mkFs shFj186 (spj186 Sj186)

def shFj69 : FnSh := ⟨[.agg [.int .u64, .int .u64, .int .u64, .int .u64], .agg [.int .u64, .int .u64, .int .u64, .int .u64]], []⟩
end Go.Proofs.YtccocdgimamdhaaGreatDoor
