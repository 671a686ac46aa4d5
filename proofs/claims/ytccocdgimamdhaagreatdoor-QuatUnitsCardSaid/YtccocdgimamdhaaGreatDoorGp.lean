/-
  THE PROGRAM's FUNCTIONS, as their meanings (written by program).
  Conditions: none.
-/
import Derived.Test.YtccocdgimamdhaaGreatDoorMachP
namespace Go.Proofs.YtccocdgimamdhaaGreatDoor
open Go Go.Mach
set_option linter.unusedVariables false

def strTab_11c1601c : List Int := [0, 1, 2, 2, 3, 3, 3, 3, 4, 4, 4, 4, 4, 4, 4, 4, 5, 5, 5, 5, 5, 5, 5, 5, 5, 5, 5, 5, 5, 5, 5, 5, 6, 6, 6, 6, 6, 6, 6, 6, 6, 6, 6, 6, 6, 6, 6, 6, 6, 6, 6, 6, 6, 6, 6, 6, 6, 6, 6, 6, 6, 6, 6, 6, 7, 7, 7, 7, 7, 7, 7, 7, 7, 7, 7, 7, 7, 7, 7, 7, 7, 7, 7, 7, 7, 7, 7, 7, 7, 7, 7, 7, 7, 7, 7, 7, 7, 7, 7, 7, 7, 7, 7, 7, 7, 7, 7, 7, 7, 7, 7, 7, 7, 7, 7, 7, 7, 7, 7, 7, 7, 7, 7, 7, 7, 7, 7, 7, 8, 8, 8, 8, 8, 8, 8, 8, 8, 8, 8, 8, 8, 8, 8, 8, 8, 8, 8, 8, 8, 8, 8, 8, 8, 8, 8, 8, 8, 8, 8, 8, 8, 8, 8, 8, 8, 8, 8, 8, 8, 8, 8, 8, 8, 8, 8, 8, 8, 8, 8, 8, 8, 8, 8, 8, 8, 8, 8, 8, 8, 8, 8, 8, 8, 8, 8, 8, 8, 8, 8, 8, 8, 8, 8, 8, 8, 8, 8, 8, 8, 8, 8, 8, 8, 8, 8, 8, 8, 8, 8, 8, 8, 8, 8, 8, 8, 8, 8, 8, 8, 8, 8, 8, 8, 8, 8, 8, 8, 8, 8, 8, 8, 8, 8, 8, 8, 8, 8, 8, 8, 8, 8, 8, 8, 8, 8, 8]

abbrev TSj176 : Type := Nat -> (Int -> Bool) -> Bool

def sj176 (N : Nat) : TSj176 := fun n k => k n

abbrev TS_an_of : Type := (Int -> Int -> Int -> Bool) -> Bool

def G_an_of (N : Nat) (k0 : Int -> Int -> Int -> Bool) : Bool :=
  (k0 52 2047 1075)

def s_an_of (N : Nat) : TS_an_of := G_an_of N

abbrev TSj177 : Type := Int -> Int -> Int -> (Int -> Bool) -> Bool

def Gj177 (N : Nat) (f_0 f_1 f_2 : Int) (k0 : Int -> Bool) : Bool :=
  ((fits .i64 (f_1 + 1)) && ((decide (0 <= f_0)) && (k0 (IntKind.wrap .u64 ((IntKind.wrap .u64 (f_1 + 1)) * 2 ^ (min (Int.toNat f_0) 64))))))

def sj177 (N : Nat) : TSj177 := Gj177 N

abbrev TSj102 : Type := Int -> Int -> Int -> (Int -> Bool) -> Bool

def Gj102 (N : Nat) (f_0 f_1 f_2 : Int) (k0 : Int -> Bool) : Bool :=
  ((decide (0 <= f_0)) && (k0 (IntKind.wrap .u64 ((IntKind.wrap .u64 f_1) * 2 ^ (min (Int.toNat f_0) 64)))))

def sj102 (N : Nat) : TSj102 := Gj102 N

abbrev TSj101 : Type := Int -> Int -> Int -> Int -> (Bool -> Bool) -> Bool

def Gj101 (N : Nat) (Sj177 : TSj177) (Sj102 : TSj102) (b f_0 f_1 f_2 : Int) (k0 : Bool -> Bool) : Bool :=
  (Sj177 f_0 f_1 f_2 (fun nr => (Sj102 f_0 f_1 f_2 (fun nr_1 => (k0 (decide ((bitsN .andNot .u64 b nr) > nr_1)))))))

def sj101 (N : Nat) : TSj101 := Gj101 N (sj177 N) (sj102 N)

abbrev TSj81 : Type := Int -> Int -> Int -> (Int -> Bool) -> Bool

def Gj81 (N : Nat) (f_0 f_1 f_2 : Int) (k0 : Int -> Bool) : Bool :=
  ((decide (0 <= f_0)) && (k0 (IntKind.wrap .u64 ((1 : Int) * 2 ^ (min (Int.toNat f_0) 64)))))

def sj81 (N : Nat) : TSj81 := Gj81 N

abbrev TSj192 : Type := Int -> Int -> Int -> (Int -> Bool) -> Bool

def Gj192 (N : Nat) (Sj102 : TSj102) (Sj81 : TSj81) (f_0 f_1 f_2 : Int) (k0 : Int -> Bool) : Bool :=
  (Sj102 f_0 f_1 f_2 (fun nr => (Sj81 f_0 f_1 f_2 (fun nr_1 => (k0 (bitsN .or .u64 (bitsN .or .u64 nr (Int.fdiv nr_1 (2 ^ 1))) (IntKind.wrap .u64 (Int.tdiv f_0 52))))))))

def sj192 (N : Nat) : TSj192 := Gj192 N (sj102 N) (sj81 N)

abbrev TSj83 : Type := Int -> Int -> Int -> Int -> (Int -> Bool) -> Bool

def Gj83 (N : Nat) (Sj101 : TSj101) (Sj192 : TSj192) (b f_0 f_1 f_2 : Int) (k0 : Int -> Bool) : Bool :=
  (Sj101 b f_0 f_1 f_2 (fun cr => (cond cr (Sj192 f_0 f_1 f_2 (fun nr => (k0 nr))) (k0 b))))

def sj83 (N : Nat) : TSj83 := Gj83 N (sj101 N) (sj192 N)

abbrev TSj30 : Type := Int -> Int -> Int -> Int -> (Bool -> Int -> Int -> Bool) -> Bool

def Gj30 (N : Nat) (Sj83 : TSj83) (Sj177 : TSj177) (Sj81 : TSj81) (b f_0 f_1 f_2 : Int) (k0 : Bool -> Int -> Int -> Bool) : Bool :=
  (Sj83 b f_0 f_1 f_2 (fun nr => (Sj177 f_0 f_1 f_2 (fun nr_1 => ((decide (0 <= f_0)) && ((fits .i64 (bitsN .and .u64 (Int.fdiv nr (2 ^ (min (Int.toNat f_0) 64))) (IntKind.wrap .u64 f_1))) && (Sj81 f_0 f_1 f_2 (fun nr_2 => (k0 ((bitsN .and .u64 nr nr_1) != 0) (bitsN .and .u64 (Int.fdiv nr (2 ^ (min (Int.toNat f_0) 64))) (IntKind.wrap .u64 f_1)) (bitsN .and .u64 nr (IntKind.wrap .u64 (nr_2 - 1))))))))))))

def sj30 (N : Nat) : TSj30 := Gj30 N (sj83 N) (sj177 N) (sj81 N)

abbrev TSj29 : Type := Int -> Int -> Int -> Int -> (Int -> Bool) -> Bool

def Gj29 (N : Nat) (Sj30 : TSj30) (b f_0 f_1 f_2 : Int) (k0 : Int -> Bool) : Bool :=
  (Sj30 b f_0 f_1 f_2 (fun cr nr nr_1 => (cond ((nr == f_1) == true) (cond (nr_1 != 0) (k0 1) (cond (nr == f_1) (k0 2) (cond ((nr == 0) == true) (cond (nr_1 == 0) (k0 3) (cond (nr == 0) (k0 4) (k0 5))) (cond (nr == 0) (k0 4) (k0 5))))) (cond (nr == f_1) (k0 2) (cond ((nr == 0) == true) (cond (nr_1 == 0) (k0 3) (cond (nr == 0) (k0 4) (k0 5))) (cond (nr == 0) (k0 4) (k0 5)))))))

def sj29 (N : Nat) : TSj29 := Gj29 N (sj30 N)

abbrev TSj182 : Type := Nat -> (Int -> Bool) -> Bool

def Gj182 (N : Nat) (Sj176 : TSj176) (S_an_of : TS_an_of) (Sj29 : TSj29) (x : Nat) (k0 : Int -> Bool) : Bool :=
  (Sj176 x (fun nr => (S_an_of (fun nr_1 nr_2 nr_3 => (Sj29 nr nr_1 nr_2 nr_3 (fun nr_4 => (k0 nr_4)))))))

def sj182 (N : Nat) : TSj182 := Gj182 N (sj176 N) (s_an_of N) (sj29 N)

abbrev TSj97 : Type := Int -> (Fl -> Bool) -> Bool

def sj97 (N : Nat) : TSj97 := fun n k => k (canon n.toNat)

abbrev TSj198 : Type := Nat -> (Fl -> Bool) -> Bool

def Gj198 (N : Nat) (Sj176 : TSj176) (Sj97 : TSj97) (x : Nat) (k0 : Fl -> Bool) : Bool :=
  (Sj176 x (fun nr => (Sj97 (bitsN .andNot .u64 nr 9223372036854775808) (fun xr => (k0 xr)))))

def sj198 (N : Nat) : TSj198 := Gj198 N (sj176 N) (sj97 N)

abbrev TSj92 : Type := Int -> (Fl -> Bool) -> Bool

def Gj92 (N : Nat) (Sj97 : TSj97) (b : Int) (k0 : Fl -> Bool) : Bool :=
  (Sj97 b (fun xr => (k0 xr)))

def sj92 (N : Nat) : TSj92 := Gj92 N (sj97 N)

abbrev TSj50 : Type := Int -> Int -> Int -> Int -> (Fl -> Fl -> Fl -> Fl -> Bool) -> Bool

def Gj50 (N : Nat) (Sj92 : TSj92) (q_0 q_1 q_2 q_3 : Int) (k0 : Fl -> Fl -> Fl -> Fl -> Bool) : Bool :=
  (Sj92 q_0 (fun xr => (Sj92 q_1 (fun xr_1 => (Sj92 q_2 (fun xr_2 => (Sj92 q_3 (fun xr_3 => (k0 xr xr_1 xr_2 xr_3)))))))))

def sj50 (N : Nat) : TSj50 := Gj50 N (sj92 N)

abbrev TSj35 : Type := List Fl -> (Bool -> Bool) -> Bool

def st_quat_finite_0 (N : Nat) (l_1 : List Fl) (t5 : Int) (e0 : Bool -> Bool) (e1 : Bool) : (Int) -> ((Int) -> Bool) -> Bool := fun v_ K => match v_ with
  | t6 => (cond (decide (t6 < t5)) ((inR t6 (List.length l_1)) && ((inR t6 (List.length l_1)) && (cond (!feq (fsub (List.getD l_1 (Int.toNat t6) none) (List.getD l_1 (Int.toNat t6) none)) (some 0)) (e0 false) ((fits .i64 (t6 + 1)) && (K (t6 + 1)))))) e1)

def Gj35 (N : Nat) (l : List Fl) (k0 : Bool -> Bool) : Bool :=
  (iterG N (st_quat_finite_0 N l (((List.length l) : Nat) : Int) (fun t2 => (k0 t2)) (k0 true)) 0)

def sj35 (N : Nat) : TSj35 := Gj35 N

abbrev TSj15 : Type := Fl -> Fl -> Fl -> Fl -> (Bool -> Bool) -> Bool

def Gj15 (N : Nat) (Sj35 : TSj35) (qs_0 qs_1 qs_2 qs_3 : Fl) (k0 : Bool -> Bool) : Bool :=
  (Sj35 [qs_0, qs_1, qs_2, qs_3] (fun cr => (cond (!cr) (k0 false) (k0 true))))

def sj15 (N : Nat) : TSj15 := Gj15 (N + 24) (sj35 N)

abbrev TSj60 : Type := Fl -> Fl -> Fl -> Fl -> (Bool) -> Bool

def Gj60 (N : Nat) (q_0 q_1 q_2 q_3 : Fl) (k0 : Bool) : Bool :=
  k0

def sj60 (N : Nat) : TSj60 := Gj60 N

abbrev TS_m_Abs : Type := Fl -> (Fl -> Bool) -> Bool

def s_m_Abs (N : Nat) : TS_m_Abs := fun x k => k (absF x)

abbrev TSj138 : Type := Fl -> Int -> (Bool -> Bool) -> Bool

def Gj138 (N : Nat) (S_m_Abs : TS_m_Abs) (f : Fl) (sign : Int) (k0 : Bool -> Bool) : Bool :=
  (cond (sign == 0) (S_m_Abs f (fun xr => (k0 (fgt xr (some 9218868437227405311))))) (cond (decide (sign < 0)) (k0 (fgt (fneg f) (some 9218868437227405311))) (k0 (fgt f (some 9218868437227405311)))))

def sj138 (N : Nat) : TSj138 := Gj138 N (s_m_Abs N)

abbrev TSj146 : Type := Fl -> (Bool -> Bool) -> Bool

def Gj146 (N : Nat) (f : Fl) (k0 : Bool -> Bool) : Bool :=
  (k0 (!feq f f))

def sj146 (N : Nat) : TSj146 := Gj146 N

abbrev TSj76 : Type := Fl -> (Fl -> Int -> Bool) -> Bool

def Gj76 (N : Nat) (S_m_Abs : TS_m_Abs) (x : Fl) (k0 : Fl -> Int -> Bool) : Bool :=
  (S_m_Abs x (fun xr => (cond (flt xr (some 4503599627370496)) (k0 (fmul x (some 4841369599423283200)) (-52)) (k0 x 0))))

def sj76 (N : Nat) : TSj76 := Gj76 N (s_m_Abs N)

abbrev TSj106 : Type := Fl -> (Int -> Bool) -> Bool

def sj106 (N : Nat) : TSj106 := fun x k => match x with | some b => k b | none => false

abbrev TSj194 : Type := Fl -> (Fl -> Int -> Bool) -> Bool

def Gj194 (N : Nat) (Sj138 : TSj138) (Sj146 : TSj146) (Sj76 : TSj76) (Sj106 : TSj106) (Sj97 : TSj97) (f : Fl) (k0 : Fl -> Int -> Bool) : Bool :=
  (cond (feq f (some 0)) (k0 f 0) (Sj138 f 0 (fun cr => (cond (cr == false) (Sj146 f (fun cr_1 => (cond cr_1 (k0 f 0) (Sj76 f (fun xr nr => (Sj106 xr (fun nr_1 => ((fits .i64 (bitsN .and .u64 (Int.fdiv nr_1 (2 ^ 52)) 2047)) && ((fits .i64 ((bitsN .and .u64 (Int.fdiv nr_1 (2 ^ 52)) 2047) - 1023)) && ((fits .i64 (((bitsN .and .u64 (Int.fdiv nr_1 (2 ^ 52)) 2047) - 1023) + 1)) && ((fits .i64 (nr + (((bitsN .and .u64 (Int.fdiv nr_1 (2 ^ 52)) 2047) - 1023) + 1))) && (Sj97 (bitsN .or .u64 (bitsN .andNot .u64 nr_1 9218868437227405312) 4602678819172646912) (fun xr_1 => (k0 xr_1 (nr + (((bitsN .and .u64 (Int.fdiv nr_1 (2 ^ 52)) 2047) - 1023) + 1)))))))))))))))) (k0 f 0)))))

def sj194 (N : Nat) : TSj194 := Gj194 N (sj138 N) (sj146 N) (sj76 N) (sj106 N) (sj97 N)

abbrev TSj136 : Type := Fl -> (Fl -> Int -> Bool) -> Bool

def Gj136 (N : Nat) (Sj194 : TSj194) (f : Fl) (k0 : Fl -> Int -> Bool) : Bool :=
  (Sj194 f (fun xr nr => (k0 xr nr)))

def sj136 (N : Nat) : TSj136 := Gj136 N (sj194 N)

abbrev TSj116 : Type := Fl -> Fl -> (Fl -> Bool) -> Bool

def Gj116 (N : Nat) (Sj106 : TSj106) (Sj97 : TSj97) (f sign : Fl) (k0 : Fl -> Bool) : Bool :=
  (Sj106 f (fun nr => (Sj106 sign (fun nr_1 => (Sj97 (bitsN .or .u64 (bitsN .andNot .u64 nr 9223372036854775808) (bitsN .and .u64 nr_1 9223372036854775808)) (fun xr => (k0 xr)))))))

def sj116 (N : Nat) : TSj116 := Gj116 N (sj106 N) (sj97 N)

abbrev TS_m_Inf : Type := Int -> (Fl -> Bool) -> Bool

def J_m_Inf_0 (N : Nat) (Sj97 : TSj97) (sign v : Int) (k0 : Fl -> Bool) : Bool :=
  (Sj97 v (fun xr => (k0 xr)))

def G_m_Inf (N : Nat) (Sj97 : TSj97) (sign : Int) (k0 : Fl -> Bool) : Bool :=
  (cond (decide (sign >= 0)) (J_m_Inf_0 N Sj97 sign 9218868437227405312 k0) (J_m_Inf_0 N Sj97 sign 18442240474082181120 k0))

def s_m_Inf (N : Nat) : TS_m_Inf := G_m_Inf N (sj97 N)

abbrev TSj188 : Type := Fl -> Int -> (Fl -> Bool) -> Bool

def Jj232 (N : Nat) (Sj138 : TSj138) (Sj146 : TSj146) (Sj76 : TSj76) (Sj106 : TSj106) (Sj116 : TSj116) (S_m_Inf : TS_m_Inf) (Sj97 : TSj97) (frac : Fl) (exp exp_1 x : Int) (m : Fl) (k0 : Fl -> Bool) : Bool :=
  ((fits .i64 (exp_1 + 1023)) && (Sj97 (bitsN .or .u64 (bitsN .andNot .u64 x 9218868437227405312) (IntKind.wrap .u64 ((IntKind.wrap .u64 (exp_1 + 1023)) * 2 ^ 52))) (fun xr_4 => (k0 (fmul m xr_4)))))

def Gj188 (N : Nat) (Sj138 : TSj138) (Sj146 : TSj146) (Sj76 : TSj76) (Sj106 : TSj106) (Sj116 : TSj116) (S_m_Inf : TS_m_Inf) (Sj97 : TSj97) (frac : Fl) (exp : Int) (k0 : Fl -> Bool) : Bool :=
  (cond (feq frac (some 0)) (k0 frac) (Sj138 frac 0 (fun cr => (cond (cr == false) (Sj146 frac (fun cr_1 => (cond cr_1 (k0 frac) (Sj76 frac (fun xr nr => ((fits .i64 (exp + nr)) && (Sj106 xr (fun nr_1 => ((fits .i64 (Int.fdiv nr_1 (2 ^ 52))) && ((fits .i64 ((bitsN .and .i64 (Int.fdiv nr_1 (2 ^ 52)) 2047) - 1023)) && ((fits .i64 ((exp + nr) + ((bitsN .and .i64 (Int.fdiv nr_1 (2 ^ 52)) 2047) - 1023))) && (cond (decide (((exp + nr) + ((bitsN .and .i64 (Int.fdiv nr_1 (2 ^ 52)) 2047) - 1023)) < (-1075))) (Sj116 (some 0) xr (fun xr_1 => (k0 xr_1))) (cond (decide (((exp + nr) + ((bitsN .and .i64 (Int.fdiv nr_1 (2 ^ 52)) 2047) - 1023)) > 1023)) (cond (flt xr (some 0)) (S_m_Inf (-1) (fun xr_2 => (k0 xr_2))) (S_m_Inf 1 (fun xr_3 => (k0 xr_3)))) (cond (decide (((exp + nr) + ((bitsN .and .i64 (Int.fdiv nr_1 (2 ^ 52)) 2047) - 1023)) < (-1022))) ((fits .i64 (((exp + nr) + ((bitsN .and .i64 (Int.fdiv nr_1 (2 ^ 52)) 2047) - 1023)) + 53)) && (Jj232 N Sj138 Sj146 Sj76 Sj106 Sj116 S_m_Inf Sj97 frac exp (((exp + nr) + ((bitsN .and .i64 (Int.fdiv nr_1 (2 ^ 52)) 2047) - 1023)) + 53) nr_1 (some 4368491638549381120) k0)) (Jj232 N Sj138 Sj146 Sj76 Sj106 Sj116 S_m_Inf Sj97 frac exp ((exp + nr) + ((bitsN .and .i64 (Int.fdiv nr_1 (2 ^ 52)) 2047) - 1023)) nr_1 (some 4607182418800017408) k0))))))))))))))) (k0 frac)))))

def sj188 (N : Nat) : TSj188 := Gj188 N (sj138 N) (sj146 N) (sj76 N) (sj106 N) (sj116 N) (s_m_Inf N) (sj97 N)

abbrev TSj187 : Type := Fl -> Int -> (Fl -> Bool) -> Bool

def Gj187 (N : Nat) (Sj188 : TSj188) (frac : Fl) (exp : Int) (k0 : Fl -> Bool) : Bool :=
  (Sj188 frac exp (fun xr => (k0 xr)))

def sj187 (N : Nat) : TSj187 := Gj187 N (sj188 N)

abbrev TSj205 : Type := Fl -> (Fl -> Bool) -> Bool

def sj205 (N : Nat) : TSj205 := fun x k => k (fsqrt x)

abbrev TSj190 : Type := Fl -> (Fl -> Bool) -> Bool

def Gj190 (N : Nat) (Sj205 : TSj205) (x : Fl) (k0 : Fl -> Bool) : Bool :=
  (Sj205 x (fun xr => (k0 xr)))

def sj190 (N : Nat) : TSj190 := Gj190 N (sj205 N)

abbrev TSj164 : Type := Fl -> Fl -> Fl -> Fl -> (Bool) -> Bool

def Gj164 (N : Nat) (l_0 l_1 l_2 l_3 : Fl) (k0 : Bool) : Bool :=
  k0

def sj164 (N : Nat) : TSj164 := Gj164 N

abbrev TSj89 : Type := Fl -> Fl -> Fl -> Fl -> (Fl -> Fl -> Fl -> Fl -> Int -> Bool) -> Bool

def Gj89 (N : Nat) (Sj15 : TSj15) (Sj60 : TSj60) (S_m_Abs : TS_m_Abs) (Sj136 : TSj136) (Sj187 : TSj187) (Sj190 : TSj190) (Sj164 : TSj164) (q_0 q_1 q_2 q_3 : Fl) (k0 : Fl -> Fl -> Fl -> Fl -> Int -> Bool) : Bool :=
  (Sj15 q_0 q_1 q_2 q_3 (fun cr => (cond (!cr) (k0 (some 0) (some 0) (some 0) (some 0) 4) (Sj60 q_0 q_1 q_2 q_3 (S_m_Abs q_0 (fun xr => (S_m_Abs q_1 (fun xr_1 => (S_m_Abs q_2 (fun xr_2 => (S_m_Abs q_3 (fun xr_3 => (cond (feq (fmm true (fmm true (fmm true (fmm true (some 0) xr) xr_1) xr_2) xr_3) (some 0)) (k0 (some 0) (some 0) (some 0) (some 0) 120) (Sj136 (fmm true (fmm true (fmm true (fmm true (some 0) xr) xr_1) xr_2) xr_3) (fun xr_4 nr => ((fits .i64 (1 - nr)) && (Sj187 q_0 (1 - nr) (fun xr_5 => ((fits .i64 (1 - nr)) && (Sj187 q_1 (1 - nr) (fun xr_6 => ((fits .i64 (1 - nr)) && (Sj187 q_2 (1 - nr) (fun xr_7 => ((fits .i64 (1 - nr)) && (Sj187 q_3 (1 - nr) (fun xr_8 => (Sj190 (fadd (fadd (fadd (fadd (some 0) (fmul xr_5 xr_5)) (fmul xr_6 xr_6)) (fmul xr_7 xr_7)) (fmul xr_8 xr_8)) (fun xr_9 => (Sj164 (fdiv xr_5 xr_9) (fdiv xr_6 xr_9) (fdiv xr_7 xr_9) (fdiv xr_8 xr_9) (k0 (fdiv xr_5 xr_9) (fdiv xr_6 xr_9) (fdiv xr_7 xr_9) (fdiv xr_8 xr_9) 0)))))))))))))))))))))))))))))))

def sj89 (N : Nat) : TSj89 := Gj89 (N + 24) (sj15 N) (sj60 N) (s_m_Abs N) (sj136 N) (sj187 N) (sj190 N) (sj164 N)

abbrev TSj117 : Type := Fl -> Fl -> Fl -> Fl -> (List Fl -> Bool) -> Bool

def Gj117 (N : Nat) (q_0 q_1 q_2 q_3 : Fl) (k0 : List Fl -> Bool) : Bool :=
  (k0 [q_0, q_1, q_2, q_3])

def sj117 (N : Nat) : TSj117 := Gj117 N

abbrev TSj144 : Type := Fl -> (Int -> Bool) -> Bool

def Gj144 (N : Nat) (Sj106 : TSj106) (x : Fl) (k0 : Int -> Bool) : Bool :=
  (cond (!feq x x) (k0 9221120237041090561) (Sj106 x (fun nr => (k0 nr))))

def sj144 (N : Nat) : TSj144 := Gj144 N (sj106 N)

abbrev TSj105 : Type := Fl -> (Bool -> Int -> Int -> Bool) -> Bool

def Gj105 (N : Nat) (Sj144 : TSj144) (x : Fl) (k0 : Bool -> Int -> Int -> Bool) : Bool :=
  (Sj144 x (fun nr => ((fits .i64 (Int.tmod (Int.fdiv nr (2 ^ 52)) 2048)) && (k0 ((Int.fdiv nr (2 ^ 63)) == 1) (Int.tmod (Int.fdiv nr (2 ^ 52)) 2048) (Int.tmod nr 4503599627370496)))))

def sj105 (N : Nat) : TSj105 := Gj105 N (sj144 N)

abbrev TSj127 : Type := Int -> Int -> Int -> (Int -> Bool) -> Bool

def Gj127 (N : Nat) (exp frac most : Int) (k0 : Int -> Bool) : Bool :=
  (cond ((exp == most) == true) (cond (frac != 0) (k0 1) (cond (exp == most) (k0 2) (cond ((exp == 0) == true) (cond (frac == 0) (k0 3) (cond (exp == 0) (k0 4) (k0 5))) (cond (exp == 0) (k0 4) (k0 5))))) (cond (exp == most) (k0 2) (cond ((exp == 0) == true) (cond (frac == 0) (k0 3) (cond (exp == 0) (k0 4) (k0 5))) (cond (exp == 0) (k0 4) (k0 5)))))

def sj127 (N : Nat) : TSj127 := Gj127 N

abbrev TSj166 : Type := Fl -> (Int -> Bool) -> Bool

def Gj166 (N : Nat) (Sj105 : TSj105) (Sj127 : TSj127) (x : Fl) (k0 : Int -> Bool) : Bool :=
  (Sj105 x (fun cr nr nr_1 => (Sj127 nr nr_1 2047 (fun nr_2 => (k0 nr_2)))))

def sj166 (N : Nat) : TSj166 := Gj166 N (sj105 N) (sj127 N)

abbrev TSj87 : Type := Fl -> (Bool -> Bool) -> Bool

def Gj87 (N : Nat) (Sj166 : TSj166) (x : Fl) (k0 : Bool -> Bool) : Bool :=
  (Sj166 x (fun nr => (k0 (decide (nr > 2)))))

def sj87 (N : Nat) : TSj87 := Gj87 N (sj166 N)

abbrev TSj107 : Type := List Fl -> (Bool -> Bool) -> Bool

def stj238 (N : Nat) (Sj87 : TSj87) (t5 : List Fl) (t6 : Int) (e0 : Bool -> Bool) (e1 : Bool) : (Int) -> ((Int) -> Bool) -> Bool := fun v_ K => match v_ with
  | t7 => (cond (decide (t7 < t6)) ((inR t7 (List.length t5)) && (Sj87 (List.getD t5 (Int.toNat t7) none) (fun cr => (cond (!cr) (e0 false) ((fits .i64 (t7 + 1)) && (K (t7 + 1))))))) e1)

def Gj107 (N : Nat) (Sj87 : TSj87) (l : List Fl) (k0 : Bool -> Bool) : Bool :=
  (iterG N (stj238 N Sj87 l (((List.length l) : Nat) : Int) (fun t2 => (k0 t2)) (k0 true)) 0)

def sj107 (N : Nat) : TSj107 := Gj107 N (sj87 N)

abbrev TSj44 : Type := Fl -> Fl -> Fl -> Fl -> (Bool -> Bool) -> Bool

def Gj44 (N : Nat) (Sj117 : TSj117) (Sj107 : TSj107) (q_0 q_1 q_2 q_3 : Fl) (k0 : Bool -> Bool) : Bool :=
  (Sj117 q_0 q_1 q_2 q_3 (fun xsr => (Sj107 xsr (fun cr => (k0 cr)))))

def sj44 (N : Nat) : TSj44 := Gj44 N (sj117 N) (sj107 N)

abbrev TSj64 : Type := Bool -> (Int -> Bool) -> Bool

def Gj64 (N : Nat) (ok : Bool) (k0 : Int -> Bool) : Bool :=
  (cond (!ok) (k0 4) (k0 0))

def sj64 (N : Nat) : TSj64 := Gj64 (N + 24)

abbrev TSj155 : Type := List Fl -> (Int -> Bool -> Bool) -> Bool

def st_z10_Power_0 (N : Nat) (S_m_Abs : TS_m_Abs) (Sj136 : TSj136) (x_1 : List Fl) (e0 : Fl -> Bool) : (Fl × Int) -> ((Fl × Int) -> Bool) -> Bool := fun v_ K => match v_ with
  | (m, i) => (cond (decide (i < (((List.length x_1) : Nat) : Int))) ((inR i (List.length x_1)) && (S_m_Abs (List.getD x_1 (Int.toNat i) none) (fun xr => ((fits .i64 (i + 1)) && (K ((fmm true m xr), (i + 1))))))) (e0 m))

def Gj155 (N : Nat) (S_m_Abs : TS_m_Abs) (Sj136 : TSj136) (x : List Fl) (k0 : Int -> Bool -> Bool) : Bool :=
  (iterG N (st_z10_Power_0 N S_m_Abs Sj136 x (fun m_1 => (cond (feq m_1 (some 0)) (k0 0 false) (Sj136 m_1 (fun xr_1 nr => ((fits .i64 (nr - 1)) && (k0 (nr - 1) true))))))) ((some 0), 0))

def sj155 (N : Nat) : TSj155 := Gj155 N (s_m_Abs N) (sj136 N)

abbrev TSj120 : Type := (Bool) -> Bool

def Gj120 (N : Nat) (k0 : Bool) : Bool :=
  k0

def sj120 (N : Nat) : TSj120 := Gj120 N

abbrev TSj100 : Type := (Bool) -> Bool

def Gj100 (N : Nat) (k0 : Bool) : Bool :=
  k0

def sj100 (N : Nat) : TSj100 := Gj100 N

abbrev TSj10 : Type := List Int -> (Nat -> Nat -> Bool) -> Bool

def stj237 (N m_1 : Nat) (m_3 : List Int) (e0 : Nat -> Bool) : (Nat) -> ((Nat) -> Bool) -> Bool := fun v_ K => match v_ with
  | m_2 => (cond ((decide (((m_2 : Nat) : Int) > 0)) == true) ((fits .i64 (((m_2 : Nat) : Int) - 1)) && ((inR (((m_2 : Nat) : Int) - 1) m_2) && ((decide ((m_1 + (Int.toNat (((m_2 : Nat) : Int) - 1))) < (List.length m_3))) && (cond ((List.getD m_3 (m_1 + (Int.toNat (((m_2 : Nat) : Int) - 1))) 0) == 0) ((fits .i64 (((m_2 : Nat) : Int) - 1)) && ((decide (0 <= (((m_2 : Nat) : Int) - 1) /\ (((m_2 : Nat) : Int) - 1) <= ((m_2 : Nat) : Int))) && (K ((Int.toNat (((m_2 : Nat) : Int) - 1)) - 0)))) (e0 m_2))))) (e0 m_2))

def Gj10 (N : Nat) (b : List Int) (k0 : Nat -> Nat -> Bool) : Bool :=
  (iterG N (stj237 N 0 b (fun m_4 => (k0 0 m_4))) (List.length b))

def sj10 (N : Nat) : TSj10 := Gj10 N

abbrev TSj104 : Type := Int -> (List Int -> Bool) -> Bool

def Gj104 (N : Nat) (Sj10 : TSj10) (n : Int) (k0 : List Int -> Bool) : Bool :=
  (Sj10 [(IntKind.wrap .u32 n), (IntKind.wrap .u32 (Int.fdiv n (2 ^ 32)))] (fun mr mr_1 => ((decide ((mr + mr_1) <= (List.length [(IntKind.wrap .u32 n), (IntKind.wrap .u32 (Int.fdiv n (2 ^ 32)))]))) && (k0 (List.take mr_1 (List.drop mr [(IntKind.wrap .u32 n), (IntKind.wrap .u32 (Int.fdiv n (2 ^ 32)))]))))))

def sj104 (N : Nat) : TSj104 := Gj104 N (sj10 N)

abbrev TSj173 : Type := List Int -> (List Int -> Bool) -> Bool

def st_z00_cut_0 (N : Nat) (e0 : List Int -> Bool) : (List Int) -> ((List Int) -> Bool) -> Bool := fun v_ K => match v_ with
  | m_1 => (cond ((decide ((((List.length m_1) : Nat) : Int) > 0)) == true) ((fits .i64 ((((List.length m_1) : Nat) : Int) - 1)) && ((inR ((((List.length m_1) : Nat) : Int) - 1) (List.length m_1)) && (cond ((List.getD m_1 (Int.toNat ((((List.length m_1) : Nat) : Int) - 1)) 0) == 0) ((fits .i64 ((((List.length m_1) : Nat) : Int) - 1)) && ((decide (0 <= ((((List.length m_1) : Nat) : Int) - 1) /\ ((((List.length m_1) : Nat) : Int) - 1) <= (((List.length m_1) : Nat) : Int))) && (K (List.drop 0 (List.take (Int.toNat ((((List.length m_1) : Nat) : Int) - 1)) m_1))))) (e0 m_1)))) (e0 m_1))

def Gj173 (N : Nat) (m : List Int) (k0 : List Int -> Bool) : Bool :=
  (iterG N (st_z00_cut_0 N (fun m_2 => (k0 m_2))) m)

def sj173 (N : Nat) : TSj173 := Gj173 N

abbrev TSj43 : Type := Bool -> List Int -> Bool -> (Bool -> List Int -> Bool) -> Bool

def Gj43 (N : Nat) (Sj173 : TSj173) (neg : Bool) (m : List Int) (b : Bool) (k0 : Bool -> List Int -> Bool) : Bool :=
  (Sj173 m (fun nsr => (cond (neg == true) (k0 (decide ((((List.length nsr) : Nat) : Int) > 0)) nsr) (k0 false nsr))))

def sj43 (N : Nat) : TSj43 := Gj43 N (sj173 N)

abbrev TSj54 : Type := Int -> Bool -> (Bool -> List Int -> Bool) -> Bool

def Gj54 (N : Nat) (Sj104 : TSj104) (Sj43 : TSj43) (n : Int) (b : Bool) (k0 : Bool -> List Int -> Bool) : Bool :=
  (Sj104 n (fun nsr => (Sj43 false nsr b (fun cr nsr_1 => (k0 cr nsr_1)))))

def sj54 (N : Nat) : TSj54 := Gj54 N (sj104 N) (sj43 N)

abbrev TSj72 : Type := Bool -> List Int -> Bool -> List Int -> (Bool -> List Int -> Bool) -> Bool

def Gj72 (N : Nat) (Sj173 : TSj173) (neg : Bool) (m : List Int) (b : Bool) (b_1 : List Int) (k0 : Bool -> List Int -> Bool) : Bool :=
  (Sj173 m (fun nsr => (cond (neg == true) (k0 (decide ((((List.length nsr) : Nat) : Int) > 0)) nsr) (k0 false nsr))))

def sj72 (N : Nat) : TSj72 := Gj72 N (sj173 N)

abbrev TSj85 : Type := Int -> Bool -> List Int -> (Bool -> List Int -> Bool) -> Bool

def Gj85 (N : Nat) (Sj104 : TSj104) (Sj72 : TSj72) (n : Int) (b : Bool) (b_1 : List Int) (k0 : Bool -> List Int -> Bool) : Bool :=
  (Sj104 n (fun nsr => (Sj72 false nsr b b_1 (fun cr nsr_1 => (k0 cr nsr_1)))))

def sj85 (N : Nat) : TSj85 := Gj85 N (sj104 N) (sj72 N)

abbrev TSj156 : Type := Int -> (Bool -> Bool) -> (Bool -> Bool -> List Int -> Bool) -> (Bool -> Int -> Bool -> List Int -> Bool) -> (Bool -> Bool -> List Int -> Bool) -> Bool

def Gj156 (N : Nat) (Sj54 : TSj54) (Sj85 : TSj85) (bits : Int) (k0 : Bool -> Bool) (k1 : Bool -> Bool -> List Int -> Bool) (k2 : Bool -> Int -> Bool -> List Int -> Bool) (k3 : Bool -> Bool -> List Int -> Bool) : Bool :=
  ((fits .i64 (bitsN .and .u64 (Int.fdiv bits (2 ^ 52)) 2047)) && (Sj54 (bitsN .and .u64 bits 4503599627370495) false (fun cr nsr => (cond ((bitsN .and .u64 (Int.fdiv bits (2 ^ 52)) 2047) == 2047) (cond ((bitsN .and .u64 bits 4503599627370495) != 0) (k0 false) (k1 ((bitsN .and .u64 (Int.fdiv bits (2 ^ 63)) 1) == 1) cr nsr)) (cond (decide ((bitsN .and .u64 (Int.fdiv bits (2 ^ 52)) 2047) > 0)) (Sj85 (bitsN .or .u64 (bitsN .and .u64 bits 4503599627370495) 4503599627370496) cr nsr (fun cr_1 nsr_1 => ((fits .i64 ((bitsN .and .u64 (Int.fdiv bits (2 ^ 52)) 2047) - 1)) && ((fits .i64 (((bitsN .and .u64 (Int.fdiv bits (2 ^ 52)) 2047) - 1) + (-1022))) && ((fits .i64 ((((bitsN .and .u64 (Int.fdiv bits (2 ^ 52)) 2047) - 1) + (-1022)) - 53)) && ((fits .i64 (((((bitsN .and .u64 (Int.fdiv bits (2 ^ 52)) 2047) - 1) + (-1022)) - 53) + 1)) && (k2 ((bitsN .and .u64 (Int.fdiv bits (2 ^ 63)) 1) == 1) (((((bitsN .and .u64 (Int.fdiv bits (2 ^ 52)) 2047) - 1) + (-1022)) - 53) + 1) cr_1 nsr_1))))))) (k3 ((bitsN .and .u64 (Int.fdiv bits (2 ^ 63)) 1) == 1) cr nsr))))))

def sj156 (N : Nat) : TSj156 := Gj156 N (sj54 N) (sj85 N)

abbrev TSj179 : Type := (Int -> Bool) -> Bool

def Gj179 (N : Nat) (k0 : Int -> Bool) : Bool :=
  (k0 9221120237041090561)

def sj179 (N : Nat) : TSj179 := Gj179 N

abbrev TSj167 : Type := Bool -> (Int -> Int -> Bool) -> Bool

def Gj167 (N : Nat) (Sj179 : TSj179) (b : Bool) (k0 : Int -> Int -> Bool) : Bool :=
  (Sj179 (fun nr => (k0 nr 0)))

def sj167 (N : Nat) : TSj167 := Gj167 N (sj179 N)

abbrev TSj74 : Type := Bool -> Int -> Int -> (Int -> Bool) -> Bool

def Gj74 (N : Nat) (neg : Bool) (field frac : Int) (k0 : Int -> Bool) : Bool :=
  (cond neg (k0 (bitsN .or .u64 (bitsN .or .u64 (IntKind.wrap .u64 ((IntKind.wrap .u64 field) * 2 ^ 52)) frac) 9223372036854775808)) (k0 (bitsN .or .u64 (IntKind.wrap .u64 ((IntKind.wrap .u64 field) * 2 ^ 52)) frac)))

def sj74 (N : Nat) : TSj74 := Gj74 N

abbrev TSj103 : Type := Bool -> (Int -> Bool) -> Bool

def Gj103 (N : Nat) (Sj74 : TSj74) (neg : Bool) (k0 : Int -> Bool) : Bool :=
  (Sj74 neg 2047 0 (fun nr => (k0 nr)))

def sj103 (N : Nat) : TSj103 := Gj103 N (sj74 N)

abbrev TSj38 : Type := Bool -> List Int -> (Int -> Bool) -> Bool

def Gj38 (N : Nat) (b : Bool) (b_1 : List Int) (k0 : Int -> Bool) : Bool :=
  (cond ((((List.length b_1) : Nat) : Int) == 0) (k0 0) (cond b (k0 (-1)) (k0 1)))

def sj38 (N : Nat) : TSj38 := Gj38 N

abbrev TSj169 : Type := Int -> Bool -> Int -> Bool -> List Int -> (Bool -> Bool) -> Bool

def Gj169 (N : Nat) (Sj38 : TSj38) (n_0 : Int) (n_1 : Bool) (n_2 : Int) (b : Bool) (b_1 : List Int) (k0 : Bool -> Bool) : Bool :=
  (cond ((n_0 == 0) == true) (Sj38 b b_1 (fun nr => (k0 (nr == 0)))) (k0 false))

def sj169 (N : Nat) : TSj169 := Gj169 N (sj38 N)

abbrev TSj174 : Type := Bool -> (Int -> Bool) -> Bool

def Gj174 (N : Nat) (Sj74 : TSj74) (neg : Bool) (k0 : Int -> Bool) : Bool :=
  (Sj74 neg 0 0 (fun nr => (k0 nr)))

def sj174 (N : Nat) : TSj174 := Gj174 N (sj74 N)

abbrev TSj122 : Type := Int -> (Int -> Bool) -> Bool

def Gj122 (N : Nat) (x : Int) (k0 : Int -> Bool) : Bool :=
  (cond (decide (x >= 65536)) (cond (decide ((Int.fdiv x (2 ^ 16)) >= 256)) ((inR (IntKind.wrap .u8 (Int.fdiv (Int.fdiv x (2 ^ 16)) (2 ^ 8))) 256) && ((fits .i64 (List.getD strTab_11c1601c (Int.toNat (IntKind.wrap .u8 (Int.fdiv (Int.fdiv x (2 ^ 16)) (2 ^ 8)))) 0)) && ((fits .i64 (24 + (List.getD strTab_11c1601c (Int.toNat (IntKind.wrap .u8 (Int.fdiv (Int.fdiv x (2 ^ 16)) (2 ^ 8)))) 0))) && (k0 (24 + (List.getD strTab_11c1601c (Int.toNat (IntKind.wrap .u8 (Int.fdiv (Int.fdiv x (2 ^ 16)) (2 ^ 8)))) 0)))))) ((inR (IntKind.wrap .u8 (Int.fdiv x (2 ^ 16))) 256) && ((fits .i64 (List.getD strTab_11c1601c (Int.toNat (IntKind.wrap .u8 (Int.fdiv x (2 ^ 16)))) 0)) && ((fits .i64 (16 + (List.getD strTab_11c1601c (Int.toNat (IntKind.wrap .u8 (Int.fdiv x (2 ^ 16)))) 0))) && (k0 (16 + (List.getD strTab_11c1601c (Int.toNat (IntKind.wrap .u8 (Int.fdiv x (2 ^ 16)))) 0))))))) (cond (decide (x >= 256)) ((inR (IntKind.wrap .u8 (Int.fdiv x (2 ^ 8))) 256) && ((fits .i64 (List.getD strTab_11c1601c (Int.toNat (IntKind.wrap .u8 (Int.fdiv x (2 ^ 8)))) 0)) && ((fits .i64 (8 + (List.getD strTab_11c1601c (Int.toNat (IntKind.wrap .u8 (Int.fdiv x (2 ^ 8)))) 0))) && (k0 (8 + (List.getD strTab_11c1601c (Int.toNat (IntKind.wrap .u8 (Int.fdiv x (2 ^ 8)))) 0)))))) ((inR (IntKind.wrap .u8 x) 256) && ((fits .i64 (List.getD strTab_11c1601c (Int.toNat (IntKind.wrap .u8 x)) 0)) && ((fits .i64 (0 + (List.getD strTab_11c1601c (Int.toNat (IntKind.wrap .u8 x)) 0))) && (k0 (0 + (List.getD strTab_11c1601c (Int.toNat (IntKind.wrap .u8 x)) 0))))))))

def sj122 (N : Nat) : TSj122 := Gj122 N

abbrev TSj5 : Type := Bool -> List Int -> (Int -> Bool) -> Bool

def Gj5 (N : Nat) (Sj122 : TSj122) (b : Bool) (b_1 : List Int) (k0 : Int -> Bool) : Bool :=
  (cond ((((List.length b_1) : Nat) : Int) == 0) (k0 0) ((fits .i64 ((((List.length b_1) : Nat) : Int) - 1)) && ((fits .i64 (32 * ((((List.length b_1) : Nat) : Int) - 1))) && ((fits .i64 ((((List.length b_1) : Nat) : Int) - 1)) && ((inR ((((List.length b_1) : Nat) : Int) - 1) (List.length b_1)) && (Sj122 (List.getD b_1 (Int.toNat ((((List.length b_1) : Nat) : Int) - 1)) 0) (fun nr => ((fits .i64 ((32 * ((((List.length b_1) : Nat) : Int) - 1)) + nr)) && (k0 ((32 * ((((List.length b_1) : Nat) : Int) - 1)) + nr))))))))))

def sj5 (N : Nat) : TSj5 := Gj5 N (sj122 N)

abbrev TSj63 : Type := Bool -> Bool -> List Int -> (Bool -> Nat -> Nat -> Bool) -> Bool

def Gj63 (N : Nat) (Sj10 : TSj10) (neg b : Bool) (b_1 : List Int) (k0 : Bool -> Nat -> Nat -> Bool) : Bool :=
  (Sj10 b_1 (fun mr mr_1 => (cond (neg == true) (k0 (decide (((mr_1 : Nat) : Int) > 0)) mr mr_1) (k0 false mr mr_1))))

def sj63 (N : Nat) : TSj63 := Gj63 N (sj10 N)

abbrev TSj9 : Type := Bool -> Bool -> List Int -> (Bool -> List Int -> Bool) -> Bool

def Gj9 (N : Nat) (Sj63 : TSj63) (b b_1 : Bool) (b_2 : List Int) (k0 : Bool -> List Int -> Bool) : Bool :=
  ((decide ((List.length ([] ++ b_2)) * 4 <= 140737488355328)) && (Sj63 b_1 b ([] ++ b_2) (fun cr mr mr_1 => ((decide ((mr + mr_1) <= (List.length ([] ++ b_2)))) && (k0 cr (List.take mr_1 (List.drop mr ([] ++ b_2))))))))

def sj9 (N : Nat) : TSj9 := Gj9 N (sj63 N)

abbrev TSj137 : Type := List Int -> Int -> (List Int -> Bool) -> Bool

def st_z00_left_0 (N : Nat) (Sj10 : TSj10) (m_1 : List Int) (w s : Int) (e0 : List Int -> Bool) : (Int × List Int) -> ((Int × List Int) -> Bool) -> Bool := fun v_ K => match v_ with
  | (i, out) => (cond (decide (i < (((List.length m_1) : Nat) : Int))) ((inR i (List.length m_1)) && ((decide (0 <= s)) && ((fits .i64 (w + i)) && ((inR (w + i) (List.length out)) && ((decide ((Int.toNat (w + i)) < (List.length out))) && ((inR (w + i) (List.length out)) && ((decide ((Int.toNat (w + i)) < (List.length out))) && ((fits .i64 (w + i)) && ((fits .i64 ((w + i) + 1)) && ((inR ((w + i) + 1) (List.length (List.set out (Int.toNat (w + i)) (bitsN .or .u32 (List.getD out (Int.toNat (w + i)) 0) (IntKind.wrap .u32 (IntKind.wrap .u64 ((IntKind.wrap .u64 (List.getD m_1 (Int.toNat i) 0)) * 2 ^ (min (Int.toNat s) 64)))))))) && ((decide ((Int.toNat ((w + i) + 1)) < (List.length (List.set out (Int.toNat (w + i)) (bitsN .or .u32 (List.getD out (Int.toNat (w + i)) 0) (IntKind.wrap .u32 (IntKind.wrap .u64 ((IntKind.wrap .u64 (List.getD m_1 (Int.toNat i) 0)) * 2 ^ (min (Int.toNat s) 64))))))))) && ((fits .i64 (i + 1)) && (K ((i + 1), (List.set (List.set out (Int.toNat (w + i)) (bitsN .or .u32 (List.getD out (Int.toNat (w + i)) 0) (IntKind.wrap .u32 (IntKind.wrap .u64 ((IntKind.wrap .u64 (List.getD m_1 (Int.toNat i) 0)) * 2 ^ (min (Int.toNat s) 64)))))) (Int.toNat ((w + i) + 1)) (IntKind.wrap .u32 (Int.fdiv (IntKind.wrap .u64 ((IntKind.wrap .u64 (List.getD m_1 (Int.toNat i) 0)) * 2 ^ (min (Int.toNat s) 64))) (2 ^ 32)))))))))))))))))) (e0 out))

def Gj137 (N : Nat) (Sj10 : TSj10) (m : List Int) (n : Int) (k0 : List Int -> Bool) : Bool :=
  (cond ((((List.length m) : Nat) : Int) == 0) (k0 []) ((fits .i64 (IntKind.wrap .u64 (Int.tdiv n 32))) && ((fits .i64 ((IntKind.wrap .u64 (Int.tdiv n 32)) + (((List.length m) : Nat) : Int))) && ((fits .i64 (((IntKind.wrap .u64 (Int.tdiv n 32)) + (((List.length m) : Nat) : Int)) + 1)) && ((mkOk 4 (((IntKind.wrap .u64 (Int.tdiv n 32)) + (((List.length m) : Nat) : Int)) + 1) (((IntKind.wrap .u64 (Int.tdiv n 32)) + (((List.length m) : Nat) : Int)) + 1)) && (iterG N (st_z00_left_0 N Sj10 m (IntKind.wrap .u64 (Int.tdiv n 32)) (Int.tmod n 32) (fun out_1 => (Sj10 out_1 (fun mr mr_1 => ((decide ((mr + mr_1) <= (List.length out_1))) && (k0 (List.take mr_1 (List.drop mr out_1)))))))) (0, (List.replicate (Int.toNat (((IntKind.wrap .u64 (Int.tdiv n 32)) + (((List.length m) : Nat) : Int)) + 1)) (0 : Int)))))))))

def sj137 (N : Nat) : TSj137 := Gj137 N (sj10 N)

abbrev TSj14 : Type := Int -> Bool -> List Int -> (Bool -> List Int -> Bool) -> Bool

def Gj14 (N : Nat) (Sj137 : TSj137) (Sj72 : TSj72) (n : Int) (b : Bool) (b_1 : List Int) (k0 : Bool -> List Int -> Bool) : Bool :=
  (Sj137 b_1 n (fun nsr => (Sj72 b nsr b b_1 (fun cr nsr_1 => (k0 cr nsr_1)))))

def sj14 (N : Nat) : TSj14 := Gj14 N (sj137 N) (sj72 N)

abbrev TSj126 : Type := List Int -> Int -> (List Int -> Bool) -> Bool

def st_z00_right_0 (N : Nat) (Sj10 : TSj10) (m_1 : List Int) (w s : Int) (e0 : List Int -> Bool) : (Int × List Int) -> ((Int × List Int) -> Bool) -> Bool := fun v_ K => match v_ with
  | (i, out) => (cond (decide (i < (((List.length out) : Nat) : Int))) ((fits .i64 (w + i)) && ((inR (w + i) (List.length m_1)) && ((fits .i64 (w + i)) && ((fits .i64 ((w + i) + 1)) && (cond (decide (((w + i) + 1) < (((List.length m_1) : Nat) : Int))) ((fits .i64 (w + i)) && ((fits .i64 ((w + i) + 1)) && ((inR ((w + i) + 1) (List.length m_1)) && ((decide (0 <= s)) && ((inR i (List.length out)) && ((decide ((Int.toNat i) < (List.length out))) && ((fits .i64 (i + 1)) && (K ((i + 1), (List.set out (Int.toNat i) (IntKind.wrap .u32 (Int.fdiv (bitsN .or .u64 (IntKind.wrap .u64 (List.getD m_1 (Int.toNat (w + i)) 0)) (IntKind.wrap .u64 ((IntKind.wrap .u64 (List.getD m_1 (Int.toNat ((w + i) + 1)) 0)) * 2 ^ 32))) (2 ^ (min (Int.toNat s) 64)))))))))))))) ((decide (0 <= s)) && ((inR i (List.length out)) && ((decide ((Int.toNat i) < (List.length out))) && ((fits .i64 (i + 1)) && (K ((i + 1), (List.set out (Int.toNat i) (IntKind.wrap .u32 (Int.fdiv (IntKind.wrap .u64 (List.getD m_1 (Int.toNat (w + i)) 0)) (2 ^ (min (Int.toNat s) 64)))))))))))))))) (e0 out))

def Gj126 (N : Nat) (Sj10 : TSj10) (m : List Int) (n : Int) (k0 : List Int -> Bool) : Bool :=
  ((fits .i64 (IntKind.wrap .u64 (Int.tdiv n 32))) && (cond (decide ((IntKind.wrap .u64 (Int.tdiv n 32)) >= (((List.length m) : Nat) : Int))) (k0 []) ((fits .i64 ((((List.length m) : Nat) : Int) - (IntKind.wrap .u64 (Int.tdiv n 32)))) && ((mkOk 4 ((((List.length m) : Nat) : Int) - (IntKind.wrap .u64 (Int.tdiv n 32))) ((((List.length m) : Nat) : Int) - (IntKind.wrap .u64 (Int.tdiv n 32)))) && (iterG N (st_z00_right_0 N Sj10 m (IntKind.wrap .u64 (Int.tdiv n 32)) (Int.tmod n 32) (fun out_1 => (Sj10 out_1 (fun mr mr_1 => ((decide ((mr + mr_1) <= (List.length out_1))) && (k0 (List.take mr_1 (List.drop mr out_1)))))))) (0, (List.replicate (Int.toNat ((((List.length m) : Nat) : Int) - (IntKind.wrap .u64 (Int.tdiv n 32)))) (0 : Int))))))))

def sj126 (N : Nat) : TSj126 := Gj126 N (sj10 N)

abbrev TSj36 : Type := List Int -> List Int -> (List Int -> Bool) -> Bool

def st_z00_minus_0 (N : Nat) (Sj10 : TSj10) (a_1 b_1 : List Int) (e0 : List Int -> Bool) : (Int × Int × List Int) -> ((Int × Int × List Int) -> Bool) -> Bool := fun v_ K => match v_ with
  | (borrow, i, out) => (cond (decide (i < (((List.length a_1) : Nat) : Int))) (cond (decide (i < (((List.length b_1) : Nat) : Int))) ((inR i (List.length b_1)) && ((inR i (List.length a_1)) && (cond (decide ((IntKind.wrap .u64 (List.getD a_1 (Int.toNat i) 0)) < (IntKind.wrap .u64 (borrow + (IntKind.wrap .u64 (List.getD b_1 (Int.toNat i) 0)))))) ((inR i (List.length out)) && ((decide ((Int.toNat i) < (List.length out))) && ((fits .i64 (i + 1)) && (K (1, (i + 1), (List.set out (Int.toNat i) (IntKind.wrap .u32 (IntKind.wrap .u64 ((IntKind.wrap .u64 ((IntKind.wrap .u64 (List.getD a_1 (Int.toNat i) 0)) + 4294967296)) - (IntKind.wrap .u64 (borrow + (IntKind.wrap .u64 (List.getD b_1 (Int.toNat i) 0))))))))))))) ((inR i (List.length out)) && ((decide ((Int.toNat i) < (List.length out))) && ((fits .i64 (i + 1)) && (K (0, (i + 1), (List.set out (Int.toNat i) (IntKind.wrap .u32 (IntKind.wrap .u64 ((IntKind.wrap .u64 (List.getD a_1 (Int.toNat i) 0)) - (IntKind.wrap .u64 (borrow + (IntKind.wrap .u64 (List.getD b_1 (Int.toNat i) 0)))))))))))))))) ((inR i (List.length a_1)) && (cond (decide ((IntKind.wrap .u64 (List.getD a_1 (Int.toNat i) 0)) < borrow)) ((inR i (List.length out)) && ((decide ((Int.toNat i) < (List.length out))) && ((fits .i64 (i + 1)) && (K (1, (i + 1), (List.set out (Int.toNat i) (IntKind.wrap .u32 (IntKind.wrap .u64 ((IntKind.wrap .u64 ((IntKind.wrap .u64 (List.getD a_1 (Int.toNat i) 0)) + 4294967296)) - borrow))))))))) ((inR i (List.length out)) && ((decide ((Int.toNat i) < (List.length out))) && ((fits .i64 (i + 1)) && (K (0, (i + 1), (List.set out (Int.toNat i) (IntKind.wrap .u32 (IntKind.wrap .u64 ((IntKind.wrap .u64 (List.getD a_1 (Int.toNat i) 0)) - borrow)))))))))))) (e0 out))

def Gj36 (N : Nat) (Sj10 : TSj10) (a b : List Int) (k0 : List Int -> Bool) : Bool :=
  ((mkOk 4 (((List.length a) : Nat) : Int) (((List.length a) : Nat) : Int)) && (iterG N (st_z00_minus_0 N Sj10 a b (fun out_1 => (Sj10 out_1 (fun mr mr_1 => ((decide ((mr + mr_1) <= (List.length out_1))) && (k0 (List.take mr_1 (List.drop mr out_1)))))))) (0, 0, (List.replicate (Int.toNat (((List.length a) : Nat) : Int)) (0 : Int)))))

def sj36 (N : Nat) : TSj36 := Gj36 N (sj10 N)

abbrev TSj99 : Type := List Int -> List Int -> (List Int -> Bool) -> Bool

def st_z00_plus_0 (N : Nat) (Sj10 : TSj10) (a_1 b_1 : List Int) (e0 : Int -> List Int -> Bool) : (Int × Int × List Int) -> ((Int × Int × List Int) -> Bool) -> Bool := fun v_ K => match v_ with
  | (carry, i, out) => (cond (decide (i < (((List.length a_1) : Nat) : Int))) ((inR i (List.length a_1)) && (cond (decide (i < (((List.length b_1) : Nat) : Int))) ((inR i (List.length b_1)) && ((inR i (List.length out)) && ((decide ((Int.toNat i) < (List.length out))) && ((fits .i64 (i + 1)) && (K ((Int.fdiv (IntKind.wrap .u64 ((IntKind.wrap .u64 ((IntKind.wrap .u64 (List.getD a_1 (Int.toNat i) 0)) + carry)) + (IntKind.wrap .u64 (List.getD b_1 (Int.toNat i) 0)))) (2 ^ 32)), (i + 1), (List.set out (Int.toNat i) (IntKind.wrap .u32 (IntKind.wrap .u64 ((IntKind.wrap .u64 ((IntKind.wrap .u64 (List.getD a_1 (Int.toNat i) 0)) + carry)) + (IntKind.wrap .u64 (List.getD b_1 (Int.toNat i) 0)))))))))))) ((inR i (List.length out)) && ((decide ((Int.toNat i) < (List.length out))) && ((fits .i64 (i + 1)) && (K ((Int.fdiv (IntKind.wrap .u64 ((IntKind.wrap .u64 (List.getD a_1 (Int.toNat i) 0)) + carry)) (2 ^ 32)), (i + 1), (List.set out (Int.toNat i) (IntKind.wrap .u32 (IntKind.wrap .u64 ((IntKind.wrap .u64 (List.getD a_1 (Int.toNat i) 0)) + carry))))))))))) (e0 carry out))

def Gj99 (N : Nat) (Sj10 : TSj10) (a b : List Int) (k0 : List Int -> Bool) : Bool :=
  (cond (decide ((((List.length a) : Nat) : Int) < (((List.length b) : Nat) : Int))) ((fits .i64 ((((List.length b) : Nat) : Int) + 1)) && ((mkOk 4 ((((List.length b) : Nat) : Int) + 1) ((((List.length b) : Nat) : Int) + 1)) && (iterG N (st_z00_plus_0 N Sj10 b a (fun carry_1 out_1 => ((inR (((List.length b) : Nat) : Int) (List.length out_1)) && ((decide ((Int.toNat (((List.length b) : Nat) : Int)) < (List.length out_1))) && (Sj10 (List.set out_1 (Int.toNat (((List.length b) : Nat) : Int)) (IntKind.wrap .u32 carry_1)) (fun mr mr_1 => ((decide ((mr + mr_1) <= (List.length (List.set out_1 (Int.toNat (((List.length b) : Nat) : Int)) (IntKind.wrap .u32 carry_1))))) && (k0 (List.take mr_1 (List.drop mr (List.set out_1 (Int.toNat (((List.length b) : Nat) : Int)) (IntKind.wrap .u32 carry_1)))))))))))) (0, 0, (List.replicate (Int.toNat ((((List.length b) : Nat) : Int) + 1)) (0 : Int)))))) ((fits .i64 ((((List.length a) : Nat) : Int) + 1)) && ((mkOk 4 ((((List.length a) : Nat) : Int) + 1) ((((List.length a) : Nat) : Int) + 1)) && (iterG N (st_z00_plus_0 N Sj10 a b (fun carry_2 out_2 => ((inR (((List.length a) : Nat) : Int) (List.length out_2)) && ((decide ((Int.toNat (((List.length a) : Nat) : Int)) < (List.length out_2))) && (Sj10 (List.set out_2 (Int.toNat (((List.length a) : Nat) : Int)) (IntKind.wrap .u32 carry_2)) (fun mr_2 mr_3 => ((decide ((mr_2 + mr_3) <= (List.length (List.set out_2 (Int.toNat (((List.length a) : Nat) : Int)) (IntKind.wrap .u32 carry_2))))) && (k0 (List.take mr_3 (List.drop mr_2 (List.set out_2 (Int.toNat (((List.length a) : Nat) : Int)) (IntKind.wrap .u32 carry_2)))))))))))) (0, 0, (List.replicate (Int.toNat ((((List.length a) : Nat) : Int) + 1)) (0 : Int)))))))

def sj99 (N : Nat) : TSj99 := Gj99 N (sj10 N)

abbrev TSj115 : Type := Int -> Bool -> Bool -> List Int -> (Bool -> List Int -> Bool) -> Bool

def Gj115 (N : Nat) (Sj126 : TSj126) (Sj43 : TSj43) (Sj36 : TSj36) (Sj99 : TSj99) (n : Int) (b b_1 : Bool) (b_2 : List Int) (k0 : Bool -> List Int -> Bool) : Bool :=
  (cond (!b_1) (Sj126 b_2 n (fun nsr => (Sj43 false nsr b (fun cr nsr_1 => (k0 cr nsr_1))))) (Sj36 b_2 [1] (fun nsr_2 => (Sj126 nsr_2 n (fun nsr_3 => (Sj99 nsr_3 [1] (fun nsr_4 => (Sj43 true nsr_4 b (fun cr_1 nsr_5 => (k0 cr_1 nsr_5))))))))))

def sj115 (N : Nat) : TSj115 := Gj115 N (sj126 N) (sj43 N) (sj36 N) (sj99 N)

abbrev TSj78 : Type := Int -> Bool -> Bool -> List Int -> (Bool -> List Int -> Bool) -> Bool

def Gj78 (N : Nat) (Sj137 : TSj137) (Sj43 : TSj43) (n : Int) (b b_1 : Bool) (b_2 : List Int) (k0 : Bool -> List Int -> Bool) : Bool :=
  (Sj137 b_2 n (fun nsr => (Sj43 b_1 nsr b (fun cr nsr_1 => (k0 cr nsr_1)))))

def sj78 (N : Nat) : TSj78 := Gj78 N (sj137 N) (sj43 N)

abbrev TSj75 : Type := List Int -> List Int -> (Int -> Bool) -> Bool

def stj224 (N : Nat) (a_1 b_1 : List Int) (e0 : Int -> Bool) (e1 : Bool) : (Int) -> ((Int) -> Bool) -> Bool := fun v_ K => match v_ with
  | i => (cond (decide (i >= 0)) ((inR i (List.length a_1)) && ((inR i (List.length b_1)) && (cond (decide ((List.getD a_1 (Int.toNat i) 0) < (List.getD b_1 (Int.toNat i) 0))) (e0 (-1)) ((inR i (List.length a_1)) && ((inR i (List.length b_1)) && (cond (decide ((List.getD a_1 (Int.toNat i) 0) > (List.getD b_1 (Int.toNat i) 0))) (e0 1) ((fits .i64 (i - 1)) && (K (i - 1))))))))) e1)

def Gj75 (N : Nat) (a b : List Int) (k0 : Int -> Bool) : Bool :=
  (cond ((((List.length a) : Nat) : Int) != (((List.length b) : Nat) : Int)) (cond (decide ((((List.length a) : Nat) : Int) < (((List.length b) : Nat) : Int))) (k0 (-1)) (k0 1)) ((fits .i64 ((((List.length a) : Nat) : Int) - 1)) && (iterG N (stj224 N a b (fun t4 => (k0 t4)) (k0 0)) ((((List.length a) : Nat) : Int) - 1))))

def sj75 (N : Nat) : TSj75 := Gj75 N

abbrev TSj57 : Type := Bool -> Bool -> Bool -> List Int -> Bool -> List Int -> (Bool -> List Int -> Bool) -> Bool

def Gj57 (N : Nat) (Sj99 : TSj99) (Sj43 : TSj43) (Sj75 : TSj75) (Sj36 : TSj36) (turn b b_1 : Bool) (b_2 : List Int) (b_3 : Bool) (b_4 : List Int) (k0 : Bool -> List Int -> Bool) : Bool :=
  (cond (b_1 == (b_3 != turn)) (Sj99 b_2 b_4 (fun nsr => (Sj43 (b_3 != turn) nsr b (fun cr nsr_1 => (k0 cr nsr_1))))) (Sj75 b_2 b_4 (fun nr => (cond (decide (nr >= 0)) (Sj36 b_2 b_4 (fun nsr_2 => (Sj43 b_1 nsr_2 b (fun cr_1 nsr_3 => (k0 cr_1 nsr_3))))) (Sj36 b_4 b_2 (fun nsr_4 => (Sj43 (b_3 != turn) nsr_4 b (fun cr_2 nsr_5 => (k0 cr_2 nsr_5)))))))))

def sj57 (N : Nat) : TSj57 := Gj57 N (sj99 N) (sj43 N) (sj75 N) (sj36 N)

abbrev TSj86 : Type := Bool -> Bool -> List Int -> Bool -> List Int -> (Bool -> List Int -> Bool) -> Bool

def Gj86 (N : Nat) (Sj57 : TSj57) (b b_1 : Bool) (b_2 : List Int) (b_3 : Bool) (b_4 : List Int) (k0 : Bool -> List Int -> Bool) : Bool :=
  (Sj57 true b b_1 b_2 b_3 b_4 (fun cr nsr => (k0 cr nsr)))

def sj86 (N : Nat) : TSj86 := Gj86 N (sj57 N)

abbrev TSj96 : Type := Int -> Bool -> (Bool -> List Int -> Bool) -> Bool

def Gj96 (N : Nat) (Sj104 : TSj104) (Sj43 : TSj43) (n : Int) (b : Bool) (k0 : Bool -> List Int -> Bool) : Bool :=
  (cond (decide (n < 0)) (Sj104 (IntKind.wrap .u64 (0 - (IntKind.wrap .u64 n))) (fun nsr => (Sj43 (decide (n < 0)) nsr b (fun cr nsr_1 => (k0 cr nsr_1))))) (Sj104 (IntKind.wrap .u64 n) (fun nsr_2 => (Sj43 (decide (n < 0)) nsr_2 b (fun cr_1 nsr_3 => (k0 cr_1 nsr_3))))))

def sj96 (N : Nat) : TSj96 := Gj96 N (sj104 N) (sj43 N)

abbrev TSj13 : Type := Int -> (Bool -> List Int -> Bool) -> Bool

def Gj13 (N : Nat) (Sj96 : TSj96) (n : Int) (k0 : Bool -> List Int -> Bool) : Bool :=
  (Sj96 n false (fun cr nsr => (k0 cr nsr)))

def sj13 (N : Nat) : TSj13 := Gj13 N (sj96 N)

abbrev TSj113 : Type := Bool -> List Int -> Bool -> List Int -> (Int -> Bool) -> Bool

def Gj113 (N : Nat) (Sj75 : TSj75) (b : Bool) (b_1 : List Int) (b_2 : Bool) (b_3 : List Int) (k0 : Int -> Bool) : Bool :=
  (cond (b != b_2) (cond b (k0 (-1)) (k0 1)) (Sj75 b_1 b_3 (fun nr => (cond b ((fits .i64 (0 - nr)) && (k0 (0 - nr))) (k0 nr)))))

def sj113 (N : Nat) : TSj113 := Gj113 N (sj75 N)

abbrev TSj66 : Type := Int -> Bool -> List Int -> (Int -> Bool -> List Int -> Bool) -> Bool

def Gj66 (N : Nat) (Sj115 : TSj115) (Sj78 : TSj78) (Sj86 : TSj86) (Sj38 : TSj38) (Sj13 : TSj13) (Sj113 : TSj113) (s : Int) (b : Bool) (b_1 : List Int) (k0 : Int -> Bool -> List Int -> Bool) : Bool :=
  (Sj115 (IntKind.wrap .u64 s) false b b_1 (fun cr nsr => (Sj78 (IntKind.wrap .u64 s) false cr nsr (fun cr_1 nsr_1 => (Sj86 false b b_1 cr_1 nsr_1 (fun cr_2 nsr_2 => (cond (s == 0) (k0 (-2) cr nsr) (Sj38 cr_2 nsr_2 (fun nr => (cond ((nr == 0) == true) (k0 (-2) cr nsr) (Sj13 1 (fun cr_3 nsr_3 => ((fits .i64 (s - 1)) && (Sj78 (IntKind.wrap .u64 (s - 1)) false cr_3 nsr_3 (fun cr_4 nsr_4 => (Sj113 cr_2 nsr_2 cr_4 nsr_4 (fun nr_1 => (cond ((nr_1 == 0) == true) (k0 nr_1 cr nsr) (k0 nr_1 cr nsr)))))))))))))))))))

def sj66 (N : Nat) : TSj66 := Gj66 N (sj115 N) (sj78 N) (sj86 N) (sj38 N) (sj13 N) (sj113 N)

abbrev TSj131 : Type := Int -> Bool -> List Int -> (Int -> Bool) -> Bool

def Jj214 (N : Nat) (Sj36 : TSj36) (i : Int) (b : Bool) (b_1 : List Int) (b_3 : Int) (k0 : Int -> Bool) : Bool :=
  (cond b (k0 (IntKind.wrap .u64 (IntKind.wrap .u32 (1 - b_3)))) (k0 (IntKind.wrap .u64 b_3)))

def Jj212 (N : Nat) (Sj36 : TSj36) (i : Int) (b : Bool) (b_1 : List Int) (k0 : Int -> Bool) : Bool :=
  ((fits .i64 (Int.tdiv i 32)) && (cond (decide ((Int.tdiv i 32) < (((List.length b_1) : Nat) : Int))) ((fits .i64 (Int.tdiv i 32)) && ((inR (Int.tdiv i 32) (List.length b_1)) && ((decide (0 <= (IntKind.wrap .u64 (Int.tmod i 32)))) && (Jj214 N Sj36 i b b_1 (bitsN .and .u32 (Int.fdiv (List.getD b_1 (Int.toNat (Int.tdiv i 32)) 0) (2 ^ (min (Int.toNat (IntKind.wrap .u64 (Int.tmod i 32))) 32))) 1) k0)))) (Jj214 N Sj36 i b b_1 0 k0)))

def Jj225 (N : Nat) (Sj36 : TSj36) (i : Int) (b : Bool) (b_1 : List Int) (b_2 : Int) (k0 : Int -> Bool) : Bool :=
  (cond b (k0 (IntKind.wrap .u64 (IntKind.wrap .u32 (1 - b_2)))) (k0 (IntKind.wrap .u64 b_2)))

def Jj213 (N : Nat) (Sj36 : TSj36) (i : Int) (b : Bool) (b_1 m : List Int) (k0 : Int -> Bool) : Bool :=
  ((fits .i64 (Int.tdiv i 32)) && (cond (decide ((Int.tdiv i 32) < (((List.length m) : Nat) : Int))) ((fits .i64 (Int.tdiv i 32)) && ((inR (Int.tdiv i 32) (List.length m)) && ((decide (0 <= (IntKind.wrap .u64 (Int.tmod i 32)))) && (Jj225 N Sj36 i b b_1 (bitsN .and .u32 (Int.fdiv (List.getD m (Int.toNat (Int.tdiv i 32)) 0) (2 ^ (min (Int.toNat (IntKind.wrap .u64 (Int.tmod i 32))) 32))) 1) k0)))) (Jj225 N Sj36 i b b_1 0 k0)))

def Gj131 (N : Nat) (Sj36 : TSj36) (i : Int) (b : Bool) (b_1 : List Int) (k0 : Int -> Bool) : Bool :=
  (cond b (Sj36 b_1 [1] (fun nsr => (Jj213 N Sj36 i b b_1 nsr k0))) (Jj212 N Sj36 i b b_1 k0))

def sj131 (N : Nat) : TSj131 := Gj131 N (sj36 N)

abbrev TSj22 : Type := Bool -> Int -> Bool -> List Int -> (Bool -> Bool) -> Bool

def Gj22 (N : Nat) (Sj131 : TSj131) (neg : Bool) (c : Int) (b : Bool) (b_1 : List Int) (k0 : Bool -> Bool) : Bool :=
  (cond ((decide (c > 0)) == false) (cond ((c == 0) == true) (Sj131 0 b b_1 (fun nr => (k0 (nr == 1)))) (k0 false)) (k0 true))

def sj22 (N : Nat) : TSj22 := Gj22 N (sj131 N)

abbrev TSj93 : Type := Bool -> Bool -> List Int -> Bool -> List Int -> (Bool -> List Int -> Bool) -> Bool

def Gj93 (N : Nat) (Sj99 : TSj99) (Sj72 : TSj72) (Sj75 : TSj75) (Sj36 : TSj36) (turn b : Bool) (b_1 : List Int) (b_2 : Bool) (b_3 : List Int) (k0 : Bool -> List Int -> Bool) : Bool :=
  (cond (b == (b_2 != turn)) (Sj99 b_1 b_3 (fun nsr => (Sj72 (b_2 != turn) nsr b b_1 (fun cr nsr_1 => (k0 cr nsr_1))))) (Sj75 b_1 b_3 (fun nr => (cond (decide (nr >= 0)) (Sj36 b_1 b_3 (fun nsr_2 => (Sj72 b nsr_2 b b_1 (fun cr_1 nsr_3 => (k0 cr_1 nsr_3))))) (Sj36 b_3 b_1 (fun nsr_4 => (Sj72 (b_2 != turn) nsr_4 b b_1 (fun cr_2 nsr_5 => (k0 cr_2 nsr_5)))))))))

def sj93 (N : Nat) : TSj93 := Gj93 N (sj99 N) (sj72 N) (sj75 N) (sj36 N)

abbrev TSj2 : Type := Bool -> List Int -> Bool -> List Int -> (Bool -> List Int -> Bool) -> Bool

def Gj2 (N : Nat) (Sj93 : TSj93) (b : Bool) (b_1 : List Int) (b_2 : Bool) (b_3 : List Int) (k0 : Bool -> List Int -> Bool) : Bool :=
  (Sj93 false b b_1 b_2 b_3 (fun cr nsr => (k0 cr nsr)))

def sj2 (N : Nat) : TSj2 := Gj2 N (sj93 N)

abbrev TSj12 : Type := Int -> Bool -> List Int -> (Bool -> List Int -> Bool) -> Bool

def Gj12 (N : Nat) (Sj126 : TSj126) (Sj72 : TSj72) (Sj36 : TSj36) (Sj99 : TSj99) (n : Int) (b : Bool) (b_1 : List Int) (k0 : Bool -> List Int -> Bool) : Bool :=
  (cond (!b) (Sj126 b_1 n (fun nsr => (Sj72 false nsr b b_1 (fun cr nsr_1 => (k0 cr nsr_1))))) (Sj36 b_1 [1] (fun nsr_2 => (Sj126 nsr_2 n (fun nsr_3 => (Sj99 nsr_3 [1] (fun nsr_4 => (Sj72 true nsr_4 b b_1 (fun cr_1 nsr_5 => (k0 cr_1 nsr_5))))))))))

def sj12 (N : Nat) : TSj12 := Gj12 N (sj126 N) (sj72 N) (sj36 N) (sj99 N)

abbrev TSj65 : Type := Bool -> (Int -> Bool) -> Bool

def Gj65 (N : Nat) (Sj103 : TSj103) (neg : Bool) (k0 : Int -> Bool) : Bool :=
  (Sj103 neg (fun nr => (k0 nr)))

def sj65 (N : Nat) : TSj65 := Gj65 N (sj103 N)

abbrev TSj7 : Type := Bool -> List Int -> (Int -> Bool) -> Bool

def Jj208 (N : Nat) (b : Bool) (b_1 : List Int) (u : Int) (k0 : Int -> Bool) : Bool :=
  (cond (decide ((((List.length b_1) : Nat) : Int) > 1)) ((inR 1 (List.length b_1)) && (k0 (bitsN .or .u64 u (IntKind.wrap .u64 ((IntKind.wrap .u64 (List.getD b_1 1 0)) * 2 ^ 32))))) (k0 u))

def Gj7 (N : Nat) (b : Bool) (b_1 : List Int) (k0 : Int -> Bool) : Bool :=
  (cond (decide ((((List.length b_1) : Nat) : Int) > 0)) ((inR 0 (List.length b_1)) && (Jj208 N b b_1 (IntKind.wrap .u64 (List.getD b_1 0 0)) k0)) (Jj208 N b b_1 0 k0))

def sj7 (N : Nat) : TSj7 := Gj7 N

abbrev TSj143 : Type := Bool -> Int -> Bool -> List Int -> (Int -> Int -> Bool) -> Bool

def Jj217 (N : Nat) (Sj5 : TSj5) (Sj9 : TSj9) (Sj14 : TSj14) (Sj66 : TSj66) (Sj22 : TSj22) (Sj13 : TSj13) (Sj2 : TSj2) (Sj12 : TSj12) (Sj65 : TSj65) (Sj7 : TSj7) (Sj74 : TSj74) (neg : Bool) (e : Int) (b : Bool) (b_1 : List Int) (quantum_11 flags_3 : Int) (q_22 : Bool) (q_23 : List Int) (k0 : Int -> Int -> Bool) : Bool :=
  (Sj5 q_22 q_23 (fun nr_27 => ((fits .i64 (quantum_11 + nr_27)) && ((fits .i64 ((quantum_11 + nr_27) - 1)) && (cond (decide (((quantum_11 + nr_27) - 1) > 1023)) (Sj65 neg (fun nr_28 => (k0 nr_28 5))) (Sj5 q_22 q_23 (fun nr_29 => (cond (decide (nr_29 < 53)) (Sj7 q_22 q_23 (fun nr_30 => (Sj74 neg 0 nr_30 (fun nr_31 => (k0 nr_31 flags_3))))) ((fits .i64 (quantum_11 - (-1074))) && ((fits .i64 ((quantum_11 - (-1074)) + 1)) && (Sj7 q_22 q_23 (fun nr_32 => (Sj74 neg ((quantum_11 - (-1074)) + 1) (bitsN .and .u64 nr_32 4503599627370495) (fun nr_33 => (k0 nr_33 flags_3)))))))))))))))

def Jj203 (N : Nat) (Sj5 : TSj5) (Sj9 : TSj9) (Sj14 : TSj14) (Sj66 : TSj66) (Sj22 : TSj22) (Sj13 : TSj13) (Sj2 : TSj2) (Sj12 : TSj12) (Sj65 : TSj65) (Sj7 : TSj7) (Sj74 : TSj74) (neg : Bool) (e : Int) (b : Bool) (b_1 : List Int) (quantum_10 flags_2 : Int) (q_20 : Bool) (q_21 : List Int) (k0 : Int -> Int -> Bool) : Bool :=
  (Sj5 q_20 q_21 (fun nr_26 => (cond (decide (nr_26 > 53)) (Sj12 1 q_20 q_21 (fun cr_12 nsr_10 => ((fits .i64 (quantum_10 + 1)) && (Jj217 N Sj5 Sj9 Sj14 Sj66 Sj22 Sj13 Sj2 Sj12 Sj65 Sj7 Sj74 neg e b b_1 (quantum_10 + 1) flags_2 cr_12 nsr_10 k0)))) (Jj217 N Sj5 Sj9 Sj14 Sj66 Sj22 Sj13 Sj2 Sj12 Sj65 Sj7 Sj74 neg e b b_1 quantum_10 flags_2 q_20 q_21 k0))))

def Jj222 (N : Nat) (Sj5 : TSj5) (Sj9 : TSj9) (Sj14 : TSj14) (Sj66 : TSj66) (Sj22 : TSj22) (Sj13 : TSj13) (Sj2 : TSj2) (Sj12 : TSj12) (Sj65 : TSj65) (Sj7 : TSj7) (Sj74 : TSj74) (neg : Bool) (e : Int) (b : Bool) (b_1 : List Int) (top_5 quantum_9 c_2 : Int) (q_18 : Bool) (q_19 : List Int) (k0 : Int -> Int -> Bool) : Bool :=
  (cond (decide (c_2 > (-2))) (cond (decide (top_5 < (-1022))) (Jj203 N Sj5 Sj9 Sj14 Sj66 Sj22 Sj13 Sj2 Sj12 Sj65 Sj7 Sj74 neg e b b_1 quantum_9 3 q_18 q_19 k0) (Jj203 N Sj5 Sj9 Sj14 Sj66 Sj22 Sj13 Sj2 Sj12 Sj65 Sj7 Sj74 neg e b b_1 quantum_9 1 q_18 q_19 k0)) (Jj203 N Sj5 Sj9 Sj14 Sj66 Sj22 Sj13 Sj2 Sj12 Sj65 Sj7 Sj74 neg e b b_1 quantum_9 0 q_18 q_19 k0))

def Jj230 (N : Nat) (Sj5 : TSj5) (Sj9 : TSj9) (Sj14 : TSj14) (Sj66 : TSj66) (Sj22 : TSj22) (Sj13 : TSj13) (Sj2 : TSj2) (Sj12 : TSj12) (Sj65 : TSj65) (Sj7 : TSj7) (Sj74 : TSj74) (neg : Bool) (e : Int) (b : Bool) (b_1 : List Int) (quantum_8 flags_1 : Int) (q_16 : Bool) (q_17 : List Int) (k0 : Int -> Int -> Bool) : Bool :=
  (Sj5 q_16 q_17 (fun nr_19 => ((fits .i64 (quantum_8 + nr_19)) && ((fits .i64 ((quantum_8 + nr_19) - 1)) && (cond (decide (((quantum_8 + nr_19) - 1) > 1023)) (Sj65 neg (fun nr_20 => (k0 nr_20 5))) (Sj5 q_16 q_17 (fun nr_21 => (cond (decide (nr_21 < 53)) (Sj7 q_16 q_17 (fun nr_22 => (Sj74 neg 0 nr_22 (fun nr_23 => (k0 nr_23 flags_1))))) ((fits .i64 (quantum_8 - (-1074))) && ((fits .i64 ((quantum_8 - (-1074)) + 1)) && (Sj7 q_16 q_17 (fun nr_24 => (Sj74 neg ((quantum_8 - (-1074)) + 1) (bitsN .and .u64 nr_24 4503599627370495) (fun nr_25 => (k0 nr_25 flags_1)))))))))))))))

def Jj209 (N : Nat) (Sj5 : TSj5) (Sj9 : TSj9) (Sj14 : TSj14) (Sj66 : TSj66) (Sj22 : TSj22) (Sj13 : TSj13) (Sj2 : TSj2) (Sj12 : TSj12) (Sj65 : TSj65) (Sj7 : TSj7) (Sj74 : TSj74) (neg : Bool) (e : Int) (b : Bool) (b_1 : List Int) (quantum_7 flags : Int) (q_14 : Bool) (q_15 : List Int) (k0 : Int -> Int -> Bool) : Bool :=
  (Sj5 q_14 q_15 (fun nr_18 => (cond (decide (nr_18 > 53)) (Sj12 1 q_14 q_15 (fun cr_11 nsr_9 => ((fits .i64 (quantum_7 + 1)) && (Jj230 N Sj5 Sj9 Sj14 Sj66 Sj22 Sj13 Sj2 Sj12 Sj65 Sj7 Sj74 neg e b b_1 (quantum_7 + 1) flags cr_11 nsr_9 k0)))) (Jj230 N Sj5 Sj9 Sj14 Sj66 Sj22 Sj13 Sj2 Sj12 Sj65 Sj7 Sj74 neg e b b_1 quantum_7 flags q_14 q_15 k0))))

def Jj221 (N : Nat) (Sj5 : TSj5) (Sj9 : TSj9) (Sj14 : TSj14) (Sj66 : TSj66) (Sj22 : TSj22) (Sj13 : TSj13) (Sj2 : TSj2) (Sj12 : TSj12) (Sj65 : TSj65) (Sj7 : TSj7) (Sj74 : TSj74) (neg : Bool) (e : Int) (b : Bool) (b_1 : List Int) (top_4 quantum_6 c_1 : Int) (q_12 : Bool) (q_13 : List Int) (k0 : Int -> Int -> Bool) : Bool :=
  (cond (decide (c_1 > (-2))) (cond (decide (top_4 < (-1022))) (Jj209 N Sj5 Sj9 Sj14 Sj66 Sj22 Sj13 Sj2 Sj12 Sj65 Sj7 Sj74 neg e b b_1 quantum_6 3 q_12 q_13 k0) (Jj209 N Sj5 Sj9 Sj14 Sj66 Sj22 Sj13 Sj2 Sj12 Sj65 Sj7 Sj74 neg e b b_1 quantum_6 1 q_12 q_13 k0)) (Jj209 N Sj5 Sj9 Sj14 Sj66 Sj22 Sj13 Sj2 Sj12 Sj65 Sj7 Sj74 neg e b b_1 quantum_6 0 q_12 q_13 k0))

def Jj229 (N : Nat) (Sj5 : TSj5) (Sj9 : TSj9) (Sj14 : TSj14) (Sj66 : TSj66) (Sj22 : TSj22) (Sj13 : TSj13) (Sj2 : TSj2) (Sj12 : TSj12) (Sj65 : TSj65) (Sj7 : TSj7) (Sj74 : TSj74) (neg : Bool) (e : Int) (b : Bool) (b_1 : List Int) (top_3 quantum_5 c : Int) (q_10 : Bool) (q_11 : List Int) (k0 : Int -> Int -> Bool) : Bool :=
  (Sj22 neg c q_10 q_11 (fun cr_8 => (cond cr_8 (Sj13 1 (fun cr_9 nsr_7 => (Sj2 q_10 q_11 cr_9 nsr_7 (fun cr_10 nsr_8 => (Jj221 N Sj5 Sj9 Sj14 Sj66 Sj22 Sj13 Sj2 Sj12 Sj65 Sj7 Sj74 neg e b b_1 top_3 quantum_5 c cr_10 nsr_8 k0))))) (Jj222 N Sj5 Sj9 Sj14 Sj66 Sj22 Sj13 Sj2 Sj12 Sj65 Sj7 Sj74 neg e b b_1 top_3 quantum_5 c q_10 q_11 k0))))

def Jj228 (N : Nat) (Sj5 : TSj5) (Sj9 : TSj9) (Sj14 : TSj14) (Sj66 : TSj66) (Sj22 : TSj22) (Sj13 : TSj13) (Sj2 : TSj2) (Sj12 : TSj12) (Sj65 : TSj65) (Sj7 : TSj7) (Sj74 : TSj74) (neg : Bool) (e : Int) (b : Bool) (b_1 : List Int) (quantum_4 : Int) (q_8 : Bool) (q_9 : List Int) (k0 : Int -> Int -> Bool) : Bool :=
  (Sj5 q_8 q_9 (fun nr_11 => ((fits .i64 (quantum_4 + nr_11)) && ((fits .i64 ((quantum_4 + nr_11) - 1)) && (cond (decide (((quantum_4 + nr_11) - 1) > 1023)) (Sj65 neg (fun nr_12 => (k0 nr_12 5))) (Sj5 q_8 q_9 (fun nr_13 => (cond (decide (nr_13 < 53)) (Sj7 q_8 q_9 (fun nr_14 => (Sj74 neg 0 nr_14 (fun nr_15 => (k0 nr_15 0))))) ((fits .i64 (quantum_4 - (-1074))) && ((fits .i64 ((quantum_4 - (-1074)) + 1)) && (Sj7 q_8 q_9 (fun nr_16 => (Sj74 neg ((quantum_4 - (-1074)) + 1) (bitsN .and .u64 nr_16 4503599627370495) (fun nr_17 => (k0 nr_17 0)))))))))))))))

def Jj220 (N : Nat) (Sj5 : TSj5) (Sj9 : TSj9) (Sj14 : TSj14) (Sj66 : TSj66) (Sj22 : TSj22) (Sj13 : TSj13) (Sj2 : TSj2) (Sj12 : TSj12) (Sj65 : TSj65) (Sj7 : TSj7) (Sj74 : TSj74) (neg : Bool) (e : Int) (b : Bool) (b_1 : List Int) (top_2 quantum_3 : Int) (q_6 : Bool) (q_7 : List Int) (k0 : Int -> Int -> Bool) : Bool :=
  (Sj5 q_6 q_7 (fun nr_10 => (cond (decide (nr_10 > 53)) (Sj12 1 q_6 q_7 (fun cr_7 nsr_6 => ((fits .i64 (quantum_3 + 1)) && (Jj228 N Sj5 Sj9 Sj14 Sj66 Sj22 Sj13 Sj2 Sj12 Sj65 Sj7 Sj74 neg e b b_1 (quantum_3 + 1) cr_7 nsr_6 k0)))) (Jj228 N Sj5 Sj9 Sj14 Sj66 Sj22 Sj13 Sj2 Sj12 Sj65 Sj7 Sj74 neg e b b_1 quantum_3 q_6 q_7 k0))))

def Jj227 (N : Nat) (Sj5 : TSj5) (Sj9 : TSj9) (Sj14 : TSj14) (Sj66 : TSj66) (Sj22 : TSj22) (Sj13 : TSj13) (Sj2 : TSj2) (Sj12 : TSj12) (Sj65 : TSj65) (Sj7 : TSj7) (Sj74 : TSj74) (neg : Bool) (e : Int) (b : Bool) (b_1 : List Int) (quantum_2 : Int) (q_4 : Bool) (q_5 : List Int) (k0 : Int -> Int -> Bool) : Bool :=
  (Sj5 q_4 q_5 (fun nr_3 => ((fits .i64 (quantum_2 + nr_3)) && ((fits .i64 ((quantum_2 + nr_3) - 1)) && (cond (decide (((quantum_2 + nr_3) - 1) > 1023)) (Sj65 neg (fun nr_4 => (k0 nr_4 5))) (Sj5 q_4 q_5 (fun nr_5 => (cond (decide (nr_5 < 53)) (Sj7 q_4 q_5 (fun nr_6 => (Sj74 neg 0 nr_6 (fun nr_7 => (k0 nr_7 0))))) ((fits .i64 (quantum_2 - (-1074))) && ((fits .i64 ((quantum_2 - (-1074)) + 1)) && (Sj7 q_4 q_5 (fun nr_8 => (Sj74 neg ((quantum_2 - (-1074)) + 1) (bitsN .and .u64 nr_8 4503599627370495) (fun nr_9 => (k0 nr_9 0)))))))))))))))

def Jj219 (N : Nat) (Sj5 : TSj5) (Sj9 : TSj9) (Sj14 : TSj14) (Sj66 : TSj66) (Sj22 : TSj22) (Sj13 : TSj13) (Sj2 : TSj2) (Sj12 : TSj12) (Sj65 : TSj65) (Sj7 : TSj7) (Sj74 : TSj74) (neg : Bool) (e : Int) (b : Bool) (b_1 : List Int) (top_1 quantum_1 : Int) (q_2 : Bool) (q_3 : List Int) (k0 : Int -> Int -> Bool) : Bool :=
  (Sj5 q_2 q_3 (fun nr_2 => (cond (decide (nr_2 > 53)) (Sj12 1 q_2 q_3 (fun cr_6 nsr_5 => ((fits .i64 (quantum_1 + 1)) && (Jj227 N Sj5 Sj9 Sj14 Sj66 Sj22 Sj13 Sj2 Sj12 Sj65 Sj7 Sj74 neg e b b_1 (quantum_1 + 1) cr_6 nsr_5 k0)))) (Jj227 N Sj5 Sj9 Sj14 Sj66 Sj22 Sj13 Sj2 Sj12 Sj65 Sj7 Sj74 neg e b b_1 quantum_1 q_2 q_3 k0))))

def Jj226 (N : Nat) (Sj5 : TSj5) (Sj9 : TSj9) (Sj14 : TSj14) (Sj66 : TSj66) (Sj22 : TSj22) (Sj13 : TSj13) (Sj2 : TSj2) (Sj12 : TSj12) (Sj65 : TSj65) (Sj7 : TSj7) (Sj74 : TSj74) (neg : Bool) (e : Int) (b : Bool) (b_1 : List Int) (top quantum : Int) (q : Bool) (q_1 : List Int) (k0 : Int -> Int -> Bool) : Bool :=
  (Sj22 neg (-2) q q_1 (fun cr_3 => (cond cr_3 (Sj13 1 (fun cr_4 nsr_3 => (Sj2 q q_1 cr_4 nsr_3 (fun cr_5 nsr_4 => (Jj219 N Sj5 Sj9 Sj14 Sj66 Sj22 Sj13 Sj2 Sj12 Sj65 Sj7 Sj74 neg e b b_1 top quantum cr_5 nsr_4 k0))))) (Jj220 N Sj5 Sj9 Sj14 Sj66 Sj22 Sj13 Sj2 Sj12 Sj65 Sj7 Sj74 neg e b b_1 top quantum q q_1 k0))))

def Gj143 (N : Nat) (Sj5 : TSj5) (Sj9 : TSj9) (Sj14 : TSj14) (Sj66 : TSj66) (Sj22 : TSj22) (Sj13 : TSj13) (Sj2 : TSj2) (Sj12 : TSj12) (Sj65 : TSj65) (Sj7 : TSj7) (Sj74 : TSj74) (neg : Bool) (e : Int) (b : Bool) (b_1 : List Int) (k0 : Int -> Int -> Bool) : Bool :=
  (Sj5 b b_1 (fun nr => ((fits .i64 (e + nr)) && ((fits .i64 ((e + nr) - 1)) && ((fits .i64 (((e + nr) - 1) - 53)) && ((fits .i64 ((((e + nr) - 1) - 53) + 1)) && (Sj9 false b b_1 (fun cr nsr => (cond (decide (e >= (imm true ((((e + nr) - 1) - 53) + 1) (-1074)))) ((fits .i64 (e - (imm true ((((e + nr) - 1) - 53) + 1) (-1074)))) && (Sj14 (IntKind.wrap .u64 (e - (imm true ((((e + nr) - 1) - 53) + 1) (-1074)))) cr nsr (fun cr_1 nsr_1 => (Jj226 N Sj5 Sj9 Sj14 Sj66 Sj22 Sj13 Sj2 Sj12 Sj65 Sj7 Sj74 neg e b b_1 ((e + nr) - 1) (imm true ((((e + nr) - 1) - 53) + 1) (-1074)) cr_1 nsr_1 k0)))) ((fits .i64 ((imm true ((((e + nr) - 1) - 53) + 1) (-1074)) - e)) && (Sj66 ((imm true ((((e + nr) - 1) - 53) + 1) (-1074)) - e) b b_1 (fun nr_1 cr_2 nsr_2 => (Jj229 N Sj5 Sj9 Sj14 Sj66 Sj22 Sj13 Sj2 Sj12 Sj65 Sj7 Sj74 neg e b b_1 ((e + nr) - 1) (imm true ((((e + nr) - 1) - 53) + 1) (-1074)) nr_1 cr_2 nsr_2 k0)))))))))))))

def sj143 (N : Nat) : TSj143 := Gj143 N (sj5 N) (sj9 N) (sj14 N) (sj66 N) (sj22 N) (sj13 N) (sj2 N) (sj12 N) (sj65 N) (sj7 N) (sj74 N)

abbrev TSj110 : Type := Int -> Bool -> Int -> Bool -> List Int -> (Int -> Int -> Bool) -> Bool

def Gj110 (N : Nat) (Sj179 : TSj179) (Sj103 : TSj103) (Sj169 : TSj169) (Sj174 : TSj174) (Sj143 : TSj143) (n_0 : Int) (n_1 : Bool) (n_2 : Int) (b : Bool) (b_1 : List Int) (k0 : Int -> Int -> Bool) : Bool :=
  (cond (n_0 == 2) (Sj179 (fun nr => (k0 nr 0))) (cond (n_0 == 1) (Sj103 n_1 (fun nr_1 => (k0 nr_1 0))) (Sj169 n_0 n_1 n_2 b b_1 (fun cr => (cond cr (Sj174 n_1 (fun nr_2 => (k0 nr_2 0))) (Sj143 n_1 n_2 b b_1 (fun nr_3 nr_4 => (k0 nr_3 nr_4))))))))

def sj110 (N : Nat) : TSj110 := Gj110 N (sj179 N) (sj103 N) (sj169 N) (sj174 N) (sj143 N)

abbrev TSj149 : Type := Int -> Int -> (Int -> Int -> Int -> Bool) -> Bool

def Jj207 (N : Nat) (Sj120 : TSj120) (Sj100 : TSj100) (Sj156 : TSj156) (Sj167 : TSj167) (Sj110 : TSj110) (x k_ : Int) (b0_1 : Bool) (b0_2 : List Int) (n : Int) (n_1 : Bool) (n_2 : Int) (k0 : Int -> Int -> Int -> Bool) : Bool :=
  (Sj100 (Sj110 n n_1 n_2 b0_1 b0_2 (fun nr_3 nr_4 => (k0 nr_3 nr_4 0))))

def Jj239 (N : Nat) (Sj120 : TSj120) (Sj100 : TSj100) (Sj156 : TSj156) (Sj167 : TSj167) (Sj110 : TSj110) (x k_ : Int) (b0 : Bool) (k0 : Int -> Int -> Int -> Bool) : Bool :=
  (Sj100 (Sj167 b0 (fun nr_1 nr_2 => (k0 nr_1 nr_2 0))))

def Gj149 (N : Nat) (Sj120 : TSj120) (Sj100 : TSj100) (Sj156 : TSj156) (Sj167 : TSj167) (Sj110 : TSj110) (x k_ : Int) (k0 : Int -> Int -> Int -> Bool) : Bool :=
  (Sj120 (Sj100 (Sj156 x (fun cr => (Jj239 N Sj120 Sj100 Sj156 Sj167 Sj110 x k_ cr k0)) (fun cr_1 cr_2 nsr => (Jj207 N Sj120 Sj100 Sj156 Sj167 Sj110 x k_ cr_2 nsr 1 cr_1 (-1074) k0)) (fun cr_3 nr cr_4 nsr_1 => ((fits .i64 (nr + (imm true (-5000) (imm false k_ 5000)))) && (Jj207 N Sj120 Sj100 Sj156 Sj167 Sj110 x k_ cr_4 nsr_1 0 cr_3 (nr + (imm true (-5000) (imm false k_ 5000))) k0))) (fun cr_5 cr_6 nsr_2 => ((fits .i64 ((-1074) + (imm true (-5000) (imm false k_ 5000)))) && (Jj207 N Sj120 Sj100 Sj156 Sj167 Sj110 x k_ cr_6 nsr_2 0 cr_5 ((-1074) + (imm true (-5000) (imm false k_ 5000))) k0))))))

def sj149 (N : Nat) : TSj149 := Gj149 N (sj120 N) (sj100 N) (sj156 N) (sj167 N) (sj110 N)

abbrev TSj151 : Type := Fl -> Int -> (Fl -> Bool) -> Bool

def Gj151 (N : Nat) (Sj106 : TSj106) (Sj149 : TSj149) (Sj97 : TSj97) (x : Fl) (k_ : Int) (k0 : Fl -> Bool) : Bool :=
  (Sj106 x (fun nr => (Sj149 nr k_ (fun nr_1 nr_2 nr_3 => (Sj97 nr_1 (fun xr => (k0 xr)))))))

def sj151 (N : Nat) : TSj151 := Gj151 N (sj106 N) (sj149 N) (sj97 N)

abbrev TSj197 : Type := List Fl -> (Fl -> Fl -> Fl -> Fl -> Bool) -> Bool

def Gj197 (N : Nat) (l : List Fl) (k0 : Fl -> Fl -> Fl -> Fl -> Bool) : Bool :=
  ((inR 0 (List.length l)) && ((inR 1 (List.length l)) && ((inR 2 (List.length l)) && ((inR 3 (List.length l)) && (k0 (List.getD l 0 none) (List.getD l 1 none) (List.getD l 2 none) (List.getD l 3 none))))))

def sj197 (N : Nat) : TSj197 := Gj197 N

abbrev TSj129 : Type := Fl -> Fl -> Fl -> Fl -> (Fl -> Fl -> Fl -> Fl -> Int -> Bool) -> Bool

def Gj129 (N : Nat) (Sj44 : TSj44) (Sj64 : TSj64) (Sj117 : TSj117) (Sj155 : TSj155) (Sj151 : TSj151) (Sj190 : TSj190) (Sj197 : TSj197) (q_0 q_1 q_2 q_3 : Fl) (k0 : Fl -> Fl -> Fl -> Fl -> Int -> Bool) : Bool :=
  (Sj44 q_0 q_1 q_2 q_3 (fun cr => (Sj64 cr (fun nr => (cond (nr != 0) (k0 (some 0) (some 0) (some 0) (some 0) nr) (Sj117 q_0 q_1 q_2 q_3 (fun xsr => (Sj155 xsr (fun nr_1 cr_1 => (cond (!cr_1) (k0 (some 0) (some 0) (some 0) (some 0) 120) ((inR 0 (List.length xsr)) && ((decide (0 < (List.length xsr))) && ((fits .i64 (0 - nr_1)) && (Sj151 (List.getD xsr 0 none) (0 - nr_1) (fun xr => ((inR 0 (List.length xsr)) && ((decide (0 < (List.length xsr))) && ((inR 1 (List.length (List.set xsr 0 xr))) && ((decide (1 < (List.length (List.set xsr 0 xr)))) && ((fits .i64 (0 - nr_1)) && (Sj151 (List.getD (List.set xsr 0 xr) 1 none) (0 - nr_1) (fun xr_1 => ((inR 1 (List.length (List.set xsr 0 xr))) && ((decide (1 < (List.length (List.set xsr 0 xr)))) && ((inR 2 (List.length (List.set (List.set xsr 0 xr) 1 xr_1))) && ((decide (2 < (List.length (List.set (List.set xsr 0 xr) 1 xr_1)))) && ((fits .i64 (0 - nr_1)) && (Sj151 (List.getD (List.set (List.set xsr 0 xr) 1 xr_1) 2 none) (0 - nr_1) (fun xr_2 => ((inR 2 (List.length (List.set (List.set xsr 0 xr) 1 xr_1))) && ((decide (2 < (List.length (List.set (List.set xsr 0 xr) 1 xr_1)))) && ((inR 3 (List.length (List.set (List.set (List.set xsr 0 xr) 1 xr_1) 2 xr_2))) && ((decide (3 < (List.length (List.set (List.set (List.set xsr 0 xr) 1 xr_1) 2 xr_2)))) && ((fits .i64 (0 - nr_1)) && (Sj151 (List.getD (List.set (List.set (List.set xsr 0 xr) 1 xr_1) 2 xr_2) 3 none) (0 - nr_1) (fun xr_3 => ((inR 3 (List.length (List.set (List.set (List.set xsr 0 xr) 1 xr_1) 2 xr_2))) && ((decide (3 < (List.length (List.set (List.set (List.set xsr 0 xr) 1 xr_1) 2 xr_2)))) && ((inR 0 (List.length (List.set (List.set (List.set (List.set xsr 0 xr) 1 xr_1) 2 xr_2) 3 xr_3))) && ((decide (0 < (List.length (List.set (List.set (List.set (List.set xsr 0 xr) 1 xr_1) 2 xr_2) 3 xr_3)))) && ((inR 0 (List.length (List.set (List.set (List.set (List.set xsr 0 xr) 1 xr_1) 2 xr_2) 3 xr_3))) && ((decide (0 < (List.length (List.set (List.set (List.set (List.set xsr 0 xr) 1 xr_1) 2 xr_2) 3 xr_3)))) && ((inR 1 (List.length (List.set (List.set (List.set (List.set xsr 0 xr) 1 xr_1) 2 xr_2) 3 xr_3))) && ((decide (1 < (List.length (List.set (List.set (List.set (List.set xsr 0 xr) 1 xr_1) 2 xr_2) 3 xr_3)))) && ((inR 1 (List.length (List.set (List.set (List.set (List.set xsr 0 xr) 1 xr_1) 2 xr_2) 3 xr_3))) && ((decide (1 < (List.length (List.set (List.set (List.set (List.set xsr 0 xr) 1 xr_1) 2 xr_2) 3 xr_3)))) && ((inR 2 (List.length (List.set (List.set (List.set (List.set xsr 0 xr) 1 xr_1) 2 xr_2) 3 xr_3))) && ((decide (2 < (List.length (List.set (List.set (List.set (List.set xsr 0 xr) 1 xr_1) 2 xr_2) 3 xr_3)))) && ((inR 2 (List.length (List.set (List.set (List.set (List.set xsr 0 xr) 1 xr_1) 2 xr_2) 3 xr_3))) && ((decide (2 < (List.length (List.set (List.set (List.set (List.set xsr 0 xr) 1 xr_1) 2 xr_2) 3 xr_3)))) && ((inR 3 (List.length (List.set (List.set (List.set (List.set xsr 0 xr) 1 xr_1) 2 xr_2) 3 xr_3))) && ((decide (3 < (List.length (List.set (List.set (List.set (List.set xsr 0 xr) 1 xr_1) 2 xr_2) 3 xr_3)))) && ((inR 3 (List.length (List.set (List.set (List.set (List.set xsr 0 xr) 1 xr_1) 2 xr_2) 3 xr_3))) && ((decide (3 < (List.length (List.set (List.set (List.set (List.set xsr 0 xr) 1 xr_1) 2 xr_2) 3 xr_3)))) && (Sj190 (fadd (fadd (fadd (fmul (List.getD (List.set (List.set (List.set (List.set xsr 0 xr) 1 xr_1) 2 xr_2) 3 xr_3) 0 none) (List.getD (List.set (List.set (List.set (List.set xsr 0 xr) 1 xr_1) 2 xr_2) 3 xr_3) 0 none)) (fmul (List.getD (List.set (List.set (List.set (List.set xsr 0 xr) 1 xr_1) 2 xr_2) 3 xr_3) 1 none) (List.getD (List.set (List.set (List.set (List.set xsr 0 xr) 1 xr_1) 2 xr_2) 3 xr_3) 1 none))) (fmul (List.getD (List.set (List.set (List.set (List.set xsr 0 xr) 1 xr_1) 2 xr_2) 3 xr_3) 2 none) (List.getD (List.set (List.set (List.set (List.set xsr 0 xr) 1 xr_1) 2 xr_2) 3 xr_3) 2 none))) (fmul (List.getD (List.set (List.set (List.set (List.set xsr 0 xr) 1 xr_1) 2 xr_2) 3 xr_3) 3 none) (List.getD (List.set (List.set (List.set (List.set xsr 0 xr) 1 xr_1) 2 xr_2) 3 xr_3) 3 none))) (fun xr_4 => ((inR 0 (List.length (List.set (List.set (List.set (List.set xsr 0 xr) 1 xr_1) 2 xr_2) 3 xr_3))) && ((decide (0 < (List.length (List.set (List.set (List.set (List.set xsr 0 xr) 1 xr_1) 2 xr_2) 3 xr_3)))) && ((inR 0 (List.length (List.set (List.set (List.set (List.set xsr 0 xr) 1 xr_1) 2 xr_2) 3 xr_3))) && ((decide (0 < (List.length (List.set (List.set (List.set (List.set xsr 0 xr) 1 xr_1) 2 xr_2) 3 xr_3)))) && ((inR 1 (List.length (List.set (List.set (List.set (List.set (List.set xsr 0 xr) 1 xr_1) 2 xr_2) 3 xr_3) 0 (fdiv (List.getD (List.set (List.set (List.set (List.set xsr 0 xr) 1 xr_1) 2 xr_2) 3 xr_3) 0 none) xr_4)))) && ((decide (1 < (List.length (List.set (List.set (List.set (List.set (List.set xsr 0 xr) 1 xr_1) 2 xr_2) 3 xr_3) 0 (fdiv (List.getD (List.set (List.set (List.set (List.set xsr 0 xr) 1 xr_1) 2 xr_2) 3 xr_3) 0 none) xr_4))))) && ((inR 1 (List.length (List.set (List.set (List.set (List.set (List.set xsr 0 xr) 1 xr_1) 2 xr_2) 3 xr_3) 0 (fdiv (List.getD (List.set (List.set (List.set (List.set xsr 0 xr) 1 xr_1) 2 xr_2) 3 xr_3) 0 none) xr_4)))) && ((decide (1 < (List.length (List.set (List.set (List.set (List.set (List.set xsr 0 xr) 1 xr_1) 2 xr_2) 3 xr_3) 0 (fdiv (List.getD (List.set (List.set (List.set (List.set xsr 0 xr) 1 xr_1) 2 xr_2) 3 xr_3) 0 none) xr_4))))) && ((inR 2 (List.length (List.set (List.set (List.set (List.set (List.set (List.set xsr 0 xr) 1 xr_1) 2 xr_2) 3 xr_3) 0 (fdiv (List.getD (List.set (List.set (List.set (List.set xsr 0 xr) 1 xr_1) 2 xr_2) 3 xr_3) 0 none) xr_4)) 1 (fdiv (List.getD (List.set (List.set (List.set (List.set (List.set xsr 0 xr) 1 xr_1) 2 xr_2) 3 xr_3) 0 (fdiv (List.getD (List.set (List.set (List.set (List.set xsr 0 xr) 1 xr_1) 2 xr_2) 3 xr_3) 0 none) xr_4)) 1 none) xr_4)))) && ((decide (2 < (List.length (List.set (List.set (List.set (List.set (List.set (List.set xsr 0 xr) 1 xr_1) 2 xr_2) 3 xr_3) 0 (fdiv (List.getD (List.set (List.set (List.set (List.set xsr 0 xr) 1 xr_1) 2 xr_2) 3 xr_3) 0 none) xr_4)) 1 (fdiv (List.getD (List.set (List.set (List.set (List.set (List.set xsr 0 xr) 1 xr_1) 2 xr_2) 3 xr_3) 0 (fdiv (List.getD (List.set (List.set (List.set (List.set xsr 0 xr) 1 xr_1) 2 xr_2) 3 xr_3) 0 none) xr_4)) 1 none) xr_4))))) && ((inR 2 (List.length (List.set (List.set (List.set (List.set (List.set (List.set xsr 0 xr) 1 xr_1) 2 xr_2) 3 xr_3) 0 (fdiv (List.getD (List.set (List.set (List.set (List.set xsr 0 xr) 1 xr_1) 2 xr_2) 3 xr_3) 0 none) xr_4)) 1 (fdiv (List.getD (List.set (List.set (List.set (List.set (List.set xsr 0 xr) 1 xr_1) 2 xr_2) 3 xr_3) 0 (fdiv (List.getD (List.set (List.set (List.set (List.set xsr 0 xr) 1 xr_1) 2 xr_2) 3 xr_3) 0 none) xr_4)) 1 none) xr_4)))) && ((decide (2 < (List.length (List.set (List.set (List.set (List.set (List.set (List.set xsr 0 xr) 1 xr_1) 2 xr_2) 3 xr_3) 0 (fdiv (List.getD (List.set (List.set (List.set (List.set xsr 0 xr) 1 xr_1) 2 xr_2) 3 xr_3) 0 none) xr_4)) 1 (fdiv (List.getD (List.set (List.set (List.set (List.set (List.set xsr 0 xr) 1 xr_1) 2 xr_2) 3 xr_3) 0 (fdiv (List.getD (List.set (List.set (List.set (List.set xsr 0 xr) 1 xr_1) 2 xr_2) 3 xr_3) 0 none) xr_4)) 1 none) xr_4))))) && ((inR 3 (List.length (List.set (List.set (List.set (List.set (List.set (List.set (List.set xsr 0 xr) 1 xr_1) 2 xr_2) 3 xr_3) 0 (fdiv (List.getD (List.set (List.set (List.set (List.set xsr 0 xr) 1 xr_1) 2 xr_2) 3 xr_3) 0 none) xr_4)) 1 (fdiv (List.getD (List.set (List.set (List.set (List.set (List.set xsr 0 xr) 1 xr_1) 2 xr_2) 3 xr_3) 0 (fdiv (List.getD (List.set (List.set (List.set (List.set xsr 0 xr) 1 xr_1) 2 xr_2) 3 xr_3) 0 none) xr_4)) 1 none) xr_4)) 2 (fdiv (List.getD (List.set (List.set (List.set (List.set (List.set (List.set xsr 0 xr) 1 xr_1) 2 xr_2) 3 xr_3) 0 (fdiv (List.getD (List.set (List.set (List.set (List.set xsr 0 xr) 1 xr_1) 2 xr_2) 3 xr_3) 0 none) xr_4)) 1 (fdiv (List.getD (List.set (List.set (List.set (List.set (List.set xsr 0 xr) 1 xr_1) 2 xr_2) 3 xr_3) 0 (fdiv (List.getD (List.set (List.set (List.set (List.set xsr 0 xr) 1 xr_1) 2 xr_2) 3 xr_3) 0 none) xr_4)) 1 none) xr_4)) 2 none) xr_4)))) && ((decide (3 < (List.length (List.set (List.set (List.set (List.set (List.set (List.set (List.set xsr 0 xr) 1 xr_1) 2 xr_2) 3 xr_3) 0 (fdiv (List.getD (List.set (List.set (List.set (List.set xsr 0 xr) 1 xr_1) 2 xr_2) 3 xr_3) 0 none) xr_4)) 1 (fdiv (List.getD (List.set (List.set (List.set (List.set (List.set xsr 0 xr) 1 xr_1) 2 xr_2) 3 xr_3) 0 (fdiv (List.getD (List.set (List.set (List.set (List.set xsr 0 xr) 1 xr_1) 2 xr_2) 3 xr_3) 0 none) xr_4)) 1 none) xr_4)) 2 (fdiv (List.getD (List.set (List.set (List.set (List.set (List.set (List.set xsr 0 xr) 1 xr_1) 2 xr_2) 3 xr_3) 0 (fdiv (List.getD (List.set (List.set (List.set (List.set xsr 0 xr) 1 xr_1) 2 xr_2) 3 xr_3) 0 none) xr_4)) 1 (fdiv (List.getD (List.set (List.set (List.set (List.set (List.set xsr 0 xr) 1 xr_1) 2 xr_2) 3 xr_3) 0 (fdiv (List.getD (List.set (List.set (List.set (List.set xsr 0 xr) 1 xr_1) 2 xr_2) 3 xr_3) 0 none) xr_4)) 1 none) xr_4)) 2 none) xr_4))))) && ((inR 3 (List.length (List.set (List.set (List.set (List.set (List.set (List.set (List.set xsr 0 xr) 1 xr_1) 2 xr_2) 3 xr_3) 0 (fdiv (List.getD (List.set (List.set (List.set (List.set xsr 0 xr) 1 xr_1) 2 xr_2) 3 xr_3) 0 none) xr_4)) 1 (fdiv (List.getD (List.set (List.set (List.set (List.set (List.set xsr 0 xr) 1 xr_1) 2 xr_2) 3 xr_3) 0 (fdiv (List.getD (List.set (List.set (List.set (List.set xsr 0 xr) 1 xr_1) 2 xr_2) 3 xr_3) 0 none) xr_4)) 1 none) xr_4)) 2 (fdiv (List.getD (List.set (List.set (List.set (List.set (List.set (List.set xsr 0 xr) 1 xr_1) 2 xr_2) 3 xr_3) 0 (fdiv (List.getD (List.set (List.set (List.set (List.set xsr 0 xr) 1 xr_1) 2 xr_2) 3 xr_3) 0 none) xr_4)) 1 (fdiv (List.getD (List.set (List.set (List.set (List.set (List.set xsr 0 xr) 1 xr_1) 2 xr_2) 3 xr_3) 0 (fdiv (List.getD (List.set (List.set (List.set (List.set xsr 0 xr) 1 xr_1) 2 xr_2) 3 xr_3) 0 none) xr_4)) 1 none) xr_4)) 2 none) xr_4)))) && ((decide (3 < (List.length (List.set (List.set (List.set (List.set (List.set (List.set (List.set xsr 0 xr) 1 xr_1) 2 xr_2) 3 xr_3) 0 (fdiv (List.getD (List.set (List.set (List.set (List.set xsr 0 xr) 1 xr_1) 2 xr_2) 3 xr_3) 0 none) xr_4)) 1 (fdiv (List.getD (List.set (List.set (List.set (List.set (List.set xsr 0 xr) 1 xr_1) 2 xr_2) 3 xr_3) 0 (fdiv (List.getD (List.set (List.set (List.set (List.set xsr 0 xr) 1 xr_1) 2 xr_2) 3 xr_3) 0 none) xr_4)) 1 none) xr_4)) 2 (fdiv (List.getD (List.set (List.set (List.set (List.set (List.set (List.set xsr 0 xr) 1 xr_1) 2 xr_2) 3 xr_3) 0 (fdiv (List.getD (List.set (List.set (List.set (List.set xsr 0 xr) 1 xr_1) 2 xr_2) 3 xr_3) 0 none) xr_4)) 1 (fdiv (List.getD (List.set (List.set (List.set (List.set (List.set xsr 0 xr) 1 xr_1) 2 xr_2) 3 xr_3) 0 (fdiv (List.getD (List.set (List.set (List.set (List.set xsr 0 xr) 1 xr_1) 2 xr_2) 3 xr_3) 0 none) xr_4)) 1 none) xr_4)) 2 none) xr_4))))) && (Sj197 (List.set (List.set (List.set (List.set (List.set (List.set (List.set (List.set xsr 0 xr) 1 xr_1) 2 xr_2) 3 xr_3) 0 (fdiv (List.getD (List.set (List.set (List.set (List.set xsr 0 xr) 1 xr_1) 2 xr_2) 3 xr_3) 0 none) xr_4)) 1 (fdiv (List.getD (List.set (List.set (List.set (List.set (List.set xsr 0 xr) 1 xr_1) 2 xr_2) 3 xr_3) 0 (fdiv (List.getD (List.set (List.set (List.set (List.set xsr 0 xr) 1 xr_1) 2 xr_2) 3 xr_3) 0 none) xr_4)) 1 none) xr_4)) 2 (fdiv (List.getD (List.set (List.set (List.set (List.set (List.set (List.set xsr 0 xr) 1 xr_1) 2 xr_2) 3 xr_3) 0 (fdiv (List.getD (List.set (List.set (List.set (List.set xsr 0 xr) 1 xr_1) 2 xr_2) 3 xr_3) 0 none) xr_4)) 1 (fdiv (List.getD (List.set (List.set (List.set (List.set (List.set xsr 0 xr) 1 xr_1) 2 xr_2) 3 xr_3) 0 (fdiv (List.getD (List.set (List.set (List.set (List.set xsr 0 xr) 1 xr_1) 2 xr_2) 3 xr_3) 0 none) xr_4)) 1 none) xr_4)) 2 none) xr_4)) 3 (fdiv (List.getD (List.set (List.set (List.set (List.set (List.set (List.set (List.set xsr 0 xr) 1 xr_1) 2 xr_2) 3 xr_3) 0 (fdiv (List.getD (List.set (List.set (List.set (List.set xsr 0 xr) 1 xr_1) 2 xr_2) 3 xr_3) 0 none) xr_4)) 1 (fdiv (List.getD (List.set (List.set (List.set (List.set (List.set xsr 0 xr) 1 xr_1) 2 xr_2) 3 xr_3) 0 (fdiv (List.getD (List.set (List.set (List.set (List.set xsr 0 xr) 1 xr_1) 2 xr_2) 3 xr_3) 0 none) xr_4)) 1 none) xr_4)) 2 (fdiv (List.getD (List.set (List.set (List.set (List.set (List.set (List.set xsr 0 xr) 1 xr_1) 2 xr_2) 3 xr_3) 0 (fdiv (List.getD (List.set (List.set (List.set (List.set xsr 0 xr) 1 xr_1) 2 xr_2) 3 xr_3) 0 none) xr_4)) 1 (fdiv (List.getD (List.set (List.set (List.set (List.set (List.set xsr 0 xr) 1 xr_1) 2 xr_2) 3 xr_3) 0 (fdiv (List.getD (List.set (List.set (List.set (List.set xsr 0 xr) 1 xr_1) 2 xr_2) 3 xr_3) 0 none) xr_4)) 1 none) xr_4)) 2 none) xr_4)) 3 none) xr_4)) (fun xr_5 xr_6 xr_7 xr_8 => (k0 xr_5 xr_6 xr_7 xr_8 0)))))))))))))))))))))))))))))))))))))))))))))))))))))))))))))))))))))))))))

def sj129 (N : Nat) : TSj129 := Gj129 (N + 24) (sj44 N) (sj64 N) (sj117 N) (sj155 N) (sj151 N) (sj190 N) (sj197 N)

abbrev TSj28 : Type := Fl -> Fl -> (Bool -> Bool) -> Bool

def Gj28 (N : Nat) (Sj106 : TSj106) (Sj144 : TSj144) (a b : Fl) (k0 : Bool -> Bool) : Bool :=
  (Sj106 a (fun nr => (Sj144 b (fun nr_1 => (k0 (nr == nr_1))))))

def sj28 (N : Nat) : TSj28 := Gj28 N (sj106 N) (sj144 N)

abbrev TSj52 : Type := Fl -> Fl -> Fl -> Fl -> Int -> Fl -> Fl -> Fl -> Fl -> Int -> (Bool -> Bool) -> Bool

def Gj52 (N : Nat) (Sj28 : TSj28) (a_0 a_1 a_2 a_3 : Fl) (e : Int) (b_0 b_1 b_2 b_3 : Fl) (n : Int) (k0 : Bool -> Bool) : Bool :=
  (Sj28 a_0 b_0 (fun cr => (cond (cr == true) (Sj28 a_1 b_1 (fun cr_1 => (cond (cr_1 == true) (Sj28 a_2 b_2 (fun cr_2 => (cond (cr_2 == true) (Sj28 a_3 b_3 (fun cr_3 => (cond (cr_3 == true) (k0 (e == n)) (k0 false)))) (k0 false)))) (k0 false)))) (k0 false))))

def sj52 (N : Nat) : TSj52 := Gj52 N (sj28 N)

abbrev TSj159 : Type := Fl -> (Int -> Bool) -> Bool

def sj159 (N : Nat) : TSj159 := fun x k => k (clsF x)

abbrev TSj121 : Type := List Fl -> (Bool -> Bool) -> Bool

def st_an_Finite_0 (N : Nat) (Sj159 : TSj159) (t6 : List Fl) (t7 : Int) (e0 : Bool -> Bool) (e1 : Bool) : (Int) -> ((Int) -> Bool) -> Bool := fun v_ K => match v_ with
  | t8 => (cond (decide (t8 < t7)) ((inR t8 (List.length t6)) && (Sj159 (List.getD t6 (Int.toNat t8) none) (fun nr => (cond ((nr == 1) == false) (cond (nr == 2) (e0 false) ((fits .i64 (t8 + 1)) && (K (t8 + 1)))) (e0 false))))) e1)

def Gj121 (N : Nat) (Sj159 : TSj159) (l : List Fl) (k0 : Bool -> Bool) : Bool :=
  (iterG N (st_an_Finite_0 N Sj159 l (((List.length l) : Nat) : Int) (fun t2 => (k0 t2)) (k0 true)) 0)

def sj121 (N : Nat) : TSj121 := Gj121 N (sj159 N)

abbrev TSj6 : Type := Int -> (Int -> Bool) -> Bool

def Gj6 (N : Nat) (x : Int) (k0 : Int -> Bool) : Bool :=
  (cond (x == 0) (k0 64) ((inR (Int.fdiv (IntKind.wrap .u64 ((bitsN .and .u64 x (IntKind.wrap .u64 (0 - x))) * 285870213051353865)) (2 ^ 58)) 64) && ((fits .i64 (List.getD tab64 (Int.toNat (Int.fdiv (IntKind.wrap .u64 ((bitsN .and .u64 x (IntKind.wrap .u64 (0 - x))) * 285870213051353865)) (2 ^ 58))) 0)) && (k0 (List.getD tab64 (Int.toNat (Int.fdiv (IntKind.wrap .u64 ((bitsN .and .u64 x (IntKind.wrap .u64 (0 - x))) * 285870213051353865)) (2 ^ 58))) 0)))))

def sj6 (N : Nat) : TSj6 := Gj6 N

abbrev TSj77 : Type := Int -> Int -> Int -> Int -> (Bool -> Int -> Int -> Int -> Bool) -> Bool

def Jj195 (N : Nat) (Sj30 : TSj30) (Sj29 : TSj29) (Sj81 : TSj81) (Sj6 : TSj6) (b f_0 f_1 f_2 : Int) (p : Bool) (p_1 p_2 : Int) (k0 : Bool -> Int -> Int -> Int -> Bool) : Bool :=
  (Sj6 p_1 (fun nr_4 => ((decide (0 <= nr_4)) && ((fits .i64 (p_2 + nr_4)) && (k0 p (Int.fdiv p_1 (2 ^ (min (Int.toNat nr_4) 64))) (p_2 + nr_4) 0)))))

def Gj77 (N : Nat) (Sj30 : TSj30) (Sj29 : TSj29) (Sj81 : TSj81) (Sj6 : TSj6) (b f_0 f_1 f_2 : Int) (k0 : Bool -> Int -> Int -> Int -> Bool) : Bool :=
  (Sj30 b f_0 f_1 f_2 (fun cr nr nr_1 => ((fits .i64 (nr - f_2)) && (Sj29 b f_0 f_1 f_2 (fun nr_2 => (cond (nr_2 == 1) (k0 false 0 0 4) (cond (nr_2 == 2) (k0 false 0 0 4) (cond (nr_2 == 3) (k0 cr 0 0 0) (cond (nr_2 == 4) ((fits .i64 ((nr - f_2) + 1)) && (Jj195 N Sj30 Sj29 Sj81 Sj6 b f_0 f_1 f_2 cr nr_1 ((nr - f_2) + 1) k0)) (Sj81 f_0 f_1 f_2 (fun nr_3 => (Jj195 N Sj30 Sj29 Sj81 Sj6 b f_0 f_1 f_2 cr (bitsN .or .u64 nr_1 nr_3) (nr - f_2) k0))))))))))))

def sj77 (N : Nat) : TSj77 := Gj77 N (sj30 N) (sj29 N) (sj81 N) (sj6 N)

abbrev TSj181 : Type := Fl -> (Bool -> Int -> Int -> Int -> Bool) -> Bool

def Gj181 (N : Nat) (Sj106 : TSj106) (S_an_of : TS_an_of) (Sj77 : TSj77) (x : Fl) (k0 : Bool -> Int -> Int -> Int -> Bool) : Bool :=
  (Sj106 x (fun nr => (S_an_of (fun nr_1 nr_2 nr_3 => (Sj77 nr nr_1 nr_2 nr_3 (fun cr nr_4 nr_5 nr_6 => (k0 cr nr_4 nr_5 nr_6)))))))

def sj181 (N : Nat) : TSj181 := Gj181 N (sj106 N) (s_an_of N) (sj77 N)

abbrev TSj1 : Type := List Int -> (Nat -> Nat -> Bool) -> Bool

def stj231 (N : Nat) (x : List Int) (e0 : Int -> Bool) : (Int) -> ((Int) -> Bool) -> Bool := fun v_ K => match v_ with
  | n => (cond ((decide (n > 0)) == true) ((fits .i64 (n - 1)) && ((inR (n - 1) (List.length x)) && ((decide ((Int.toNat (n - 1)) < (List.length x))) && (cond ((List.getD x (Int.toNat (n - 1)) 0) == 0) ((fits .i64 (n - 1)) && (K (n - 1))) (e0 n))))) (e0 n))

def Gj1 (N : Nat) (b : List Int) (k0 : Nat -> Nat -> Bool) : Bool :=
  (iterG N (stj231 N b (fun n_1 => ((decide (0 <= n_1 /\ n_1 <= (((List.length b) : Nat) : Int))) && (k0 0 ((Int.toNat n_1) - 0))))) (((List.length b) : Nat) : Int))

def sj1 (N : Nat) : TSj1 := Gj1 N

abbrev TSj142 : Type := Int -> (List Int -> Bool) -> Bool

def Gj142 (N : Nat) (Sj1 : TSj1) (n : Int) (k0 : List Int -> Bool) : Bool :=
  (Sj1 [n] (fun mr mr_1 => ((decide ((mr + mr_1) <= (List.length [n]))) && (k0 (List.take mr_1 (List.drop mr [n]))))))

def sj142 (N : Nat) : TSj142 := Gj142 N (sj1 N)

abbrev TSj0 : Type := Bool -> List Int -> Bool -> (Bool -> Bool) -> Bool

def Gj0 (N : Nat) (neg : Bool) (abs : List Int) (b : Bool) (k0 : Bool -> Bool) : Bool :=
  (cond (neg == true) (k0 (decide ((((List.length abs) : Nat) : Int) > 0))) (k0 false))

def sj0 (N : Nat) : TSj0 := Gj0 N

abbrev TSj56 : Type := Int -> Bool -> (Bool -> List Int -> Bool) -> Bool

def Gj56 (N : Nat) (Sj142 : TSj142) (Sj0 : TSj0) (n : Int) (b : Bool) (k0 : Bool -> List Int -> Bool) : Bool :=
  (Sj142 n (fun nsr => (Sj0 false nsr b (fun cr => (k0 cr nsr)))))

def sj56 (N : Nat) : TSj56 := Gj56 N (sj142 N) (sj0 N)

abbrev TSj82 : Type := List Int -> (List Int -> Bool) -> Bool

def Gj82 (N : Nat) (x : List Int) (k0 : List Int -> Bool) : Bool :=
  ((decide ((List.length ([] ++ x)) * 8 <= 140737488355328)) && (k0 ([] ++ x)))

def sj82 (N : Nat) : TSj82 := Gj82 N

abbrev TSj33 : Type := Bool -> List Int -> Bool -> List Int -> (Bool -> Bool) -> Bool

def Gj33 (N : Nat) (neg : Bool) (abs : List Int) (b : Bool) (b_1 : List Int) (k0 : Bool -> Bool) : Bool :=
  (cond (neg == true) (k0 (decide ((((List.length abs) : Nat) : Int) > 0))) (k0 false))

def sj33 (N : Nat) : TSj33 := Gj33 N

abbrev TSj26 : Type := Bool -> List Int -> (Bool -> List Int -> Bool) -> Bool

def Gj26 (N : Nat) (Sj82 : TSj82) (Sj33 : TSj33) (b : Bool) (b_1 : List Int) (k0 : Bool -> List Int -> Bool) : Bool :=
  (Sj82 b_1 (fun nsr => (Sj33 (!b) nsr b b_1 (fun cr => (k0 cr nsr)))))

def sj26 (N : Nat) : TSj26 := Gj26 N (sj82 N) (sj33 N)

abbrev TSj175 : Type := Fl -> (Int -> Bool -> List Int -> Bool) -> Bool

def Gj175 (N : Nat) (Sj181 : TSj181) (Sj56 : TSj56) (Sj26 : TSj26) (x : Fl) (k0 : Int -> Bool -> List Int -> Bool) : Bool :=
  (Sj181 x (fun cr nr nr_1 nr_2 => (Sj56 nr false (fun cr_1 nsr => (cond cr (Sj26 cr_1 nsr (fun cr_2 nsr_1 => (k0 nr_1 cr_2 nsr_1))) (k0 nr_1 cr_1 nsr))))))

def sj175 (N : Nat) : TSj175 := Gj175 N (sj181 N) (sj56 N) (sj26 N)

abbrev TSj123 : Type := Int -> Int -> (Int -> Int -> Bool) -> Bool

def Gj123 (N : Nat) (x y : Int) (k0 : Int -> Int -> Bool) : Bool :=
  (k0 (IntKind.wrap .u64 ((IntKind.wrap .u64 ((IntKind.wrap .u64 ((Int.fdiv x (2 ^ 32)) * (Int.fdiv y (2 ^ 32)))) + (Int.fdiv (IntKind.wrap .u64 ((IntKind.wrap .u64 ((Int.fdiv x (2 ^ 32)) * (bitsN .and .u64 y 4294967295))) + (Int.fdiv (IntKind.wrap .u64 ((bitsN .and .u64 x 4294967295) * (bitsN .and .u64 y 4294967295))) (2 ^ 32)))) (2 ^ 32)))) + (Int.fdiv (IntKind.wrap .u64 ((bitsN .and .u64 (IntKind.wrap .u64 ((IntKind.wrap .u64 ((Int.fdiv x (2 ^ 32)) * (bitsN .and .u64 y 4294967295))) + (Int.fdiv (IntKind.wrap .u64 ((bitsN .and .u64 x 4294967295) * (bitsN .and .u64 y 4294967295))) (2 ^ 32)))) 4294967295) + (IntKind.wrap .u64 ((bitsN .and .u64 x 4294967295) * (Int.fdiv y (2 ^ 32)))))) (2 ^ 32)))) (IntKind.wrap .u64 (x * y)))

def sj123 (N : Nat) : TSj123 := Gj123 N

abbrev TSj79 : Type := Int -> Int -> Int -> (Int -> Int -> Bool) -> Bool

def sj79 (N : Nat) : TSj79 := fun x y c k => (decide (c.toNat <= 1)) && k (((x.toNat + y.toNat + c.toNat) % 18446744073709551616 : Nat) : Int) (((x.toNat + y.toNat + c.toNat) / 18446744073709551616 : Nat) : Int)

abbrev TSj118 : Type := Int -> Int -> Int -> Int -> (Int -> Int -> Bool) -> Bool

def Gj118 (N : Nat) (Sj123 : TSj123) (Sj79 : TSj79) (a b c d : Int) (k0 : Int -> Int -> Bool) : Bool :=
  (Sj123 a b (fun nr nr_1 => (Sj79 nr_1 c 0 (fun nr_2 nr_3 => (Sj79 nr_2 d 0 (fun nr_4 nr_5 => (k0 (IntKind.wrap .u64 ((IntKind.wrap .u64 (nr + nr_3)) + nr_5)) nr_4)))))))

def sj118 (N : Nat) : TSj118 := Gj118 N (sj123 N) (sj79 N)

abbrev TSj152 : Type := List Int -> List Int -> (List Int -> Bool) -> Bool

def st_big_times_2 (N : Nat) (Sj118 : TSj118) (Sj1 : TSj1) (y_2 : List Int) (i a : Int) (t25_1 : List Int) (t26_1 t27_1 : Int) (t32 : List Int) (t33 : Int) (e0 : Int -> List Int -> Bool) : (Int × Int × List Int) -> ((Int × Int × List Int) -> Bool) -> Bool := fun v_ K => match v_ with
  | (carry, t34, z_1) => (cond (decide (t34 < t33)) ((inR t34 (List.length t32)) && ((fits .i64 (i + t34)) && ((fits .i64 (i + t34)) && ((inR (i + t34) (List.length z_1)) && ((decide ((Int.toNat (i + t34)) < (List.length z_1))) && (Sj118 a (List.getD t32 (Int.toNat t34) 0) (List.getD z_1 (Int.toNat (i + t34)) 0) carry (fun nr nr_1 => ((inR (i + t34) (List.length z_1)) && ((decide ((Int.toNat (i + t34)) < (List.length z_1))) && ((fits .i64 (t34 + 1)) && (K (nr, (t34 + 1), (List.set z_1 (Int.toNat (i + t34)) nr_1))))))))))))) (e0 carry z_1))

def st_big_times_0 (N : Nat) (Sj118 : TSj118) (Sj1 : TSj1) (y_1 t25 : List Int) (t26 : Int) (e0 : List Int -> Bool) : (Int × List Int) -> ((Int × List Int) -> Bool) -> Bool := fun v_ K => match v_ with
  | (t27, z) => (cond (decide (t27 < t26)) ((inR t27 (List.length t25)) && (iterG N (st_big_times_2 N Sj118 Sj1 y_1 t27 (List.getD t25 (Int.toNat t27) 0) t25 t26 t27 y_1 (((List.length y_1) : Nat) : Int) (fun carry_1 z_2 => ((fits .i64 (t27 + (((List.length y_1) : Nat) : Int))) && ((inR (t27 + (((List.length y_1) : Nat) : Int)) (List.length z_2)) && ((decide ((Int.toNat (t27 + (((List.length y_1) : Nat) : Int))) < (List.length z_2))) && ((fits .i64 (t27 + 1)) && (K ((t27 + 1), (List.set z_2 (Int.toNat (t27 + (((List.length y_1) : Nat) : Int))) carry_1))))))))) (0, 0, z))) (e0 z))

def Gj152 (N : Nat) (Sj118 : TSj118) (Sj1 : TSj1) (x y : List Int) (k0 : List Int -> Bool) : Bool :=
  (cond (((((List.length x) : Nat) : Int) == 0) == false) (cond ((((List.length y) : Nat) : Int) == 0) (k0 []) ((fits .i64 ((((List.length x) : Nat) : Int) + (((List.length y) : Nat) : Int))) && ((mkOk 8 ((((List.length x) : Nat) : Int) + (((List.length y) : Nat) : Int)) ((((List.length x) : Nat) : Int) + (((List.length y) : Nat) : Int))) && (iterG N (st_big_times_0 N Sj118 Sj1 y x (((List.length x) : Nat) : Int) (fun z_3 => (Sj1 z_3 (fun mr mr_1 => ((decide ((mr + mr_1) <= (List.length z_3))) && (k0 (List.take mr_1 (List.drop mr z_3)))))))) (0, (List.replicate (Int.toNat ((((List.length x) : Nat) : Int) + (((List.length y) : Nat) : Int))) (0 : Int))))))) (k0 []))

def sj152 (N : Nat) : TSj152 := Gj152 N (sj118 N) (sj1 N)

abbrev TSj58 : Type := Bool -> Bool -> List Int -> Bool -> List Int -> (Bool -> List Int -> Bool) -> Bool

def Gj58 (N : Nat) (Sj152 : TSj152) (Sj0 : TSj0) (b b_1 : Bool) (b_2 : List Int) (b_3 : Bool) (b_4 : List Int) (k0 : Bool -> List Int -> Bool) : Bool :=
  (Sj152 b_2 b_4 (fun nsr => (Sj0 (b_1 != b_3) nsr b (fun cr => (k0 cr nsr)))))

def sj58 (N : Nat) : TSj58 := Gj58 N (sj152 N) (sj0 N)

abbrev TSj18 : Type := Int -> Int -> Bool -> List Int -> Bool -> List Int -> (Int -> Bool -> List Int -> Bool) -> Bool

def Gj18 (N : Nat) (Sj58 : TSj58) (x y : Int) (b : Bool) (b_1 : List Int) (b_2 : Bool) (b_3 : List Int) (k0 : Int -> Bool -> List Int -> Bool) : Bool :=
  (Sj58 false b b_1 b_2 b_3 (fun cr nsr => ((fits .i64 (x + y)) && (k0 (x + y) cr nsr))))

def sj18 (N : Nat) : TSj18 := Gj18 N (sj58 N)

abbrev TSj88 : Type := Bool -> (Int -> List Int -> Bool) -> Bool

def Gj88 (N : Nat) (b : Bool) (k0 : Int -> List Int -> Bool) : Bool :=
  (cond b (k0 (-1) []) (k0 0 []))

def sj88 (N : Nat) : TSj88 := Gj88 N

abbrev TSj3 : Type := Bool -> List Int -> (Int -> Bool) -> Bool

def Gj3 (N : Nat) (b : Bool) (b_1 : List Int) (k0 : Int -> Bool) : Bool :=
  (cond b (k0 (-1)) (cond ((((List.length b_1) : Nat) : Int) == 0) (k0 0) (k0 1)))

def sj3 (N : Nat) : TSj3 := Gj3 N

abbrev TSj119 : Type := List Int -> Int -> (List Int -> Bool) -> Bool

def st_big_left_0 (N : Nat) (Sj1 : TSj1) (words rest : Int) (t24 : List Int) (t25 : Int) (e0 : List Int -> Bool) : (Int × List Int) -> ((Int × List Int) -> Bool) -> Bool := fun v_ K => match v_ with
  | (t26, z) => (cond (decide (t26 < t25)) ((inR t26 (List.length t24)) && ((fits .i64 (words + t26)) && ((inR (words + t26) (List.length z)) && ((decide ((Int.toNat (words + t26)) < (List.length z))) && ((decide (0 <= rest)) && ((inR (words + t26) (List.length z)) && ((decide ((Int.toNat (words + t26)) < (List.length z))) && ((fits .i64 (words + t26)) && ((fits .i64 ((words + t26) + 1)) && ((decide (0 <= (IntKind.wrap .u64 (64 - rest)))) && ((inR ((words + t26) + 1) (List.length (List.set z (Int.toNat (words + t26)) (bitsN .or .u64 (List.getD z (Int.toNat (words + t26)) 0) (IntKind.wrap .u64 ((List.getD t24 (Int.toNat t26) 0) * 2 ^ (min (Int.toNat rest) 64))))))) && ((decide ((Int.toNat ((words + t26) + 1)) < (List.length (List.set z (Int.toNat (words + t26)) (bitsN .or .u64 (List.getD z (Int.toNat (words + t26)) 0) (IntKind.wrap .u64 ((List.getD t24 (Int.toNat t26) 0) * 2 ^ (min (Int.toNat rest) 64)))))))) && ((fits .i64 (t26 + 1)) && (K ((t26 + 1), (List.set (List.set z (Int.toNat (words + t26)) (bitsN .or .u64 (List.getD z (Int.toNat (words + t26)) 0) (IntKind.wrap .u64 ((List.getD t24 (Int.toNat t26) 0) * 2 ^ (min (Int.toNat rest) 64))))) (Int.toNat ((words + t26) + 1)) (Int.fdiv (List.getD t24 (Int.toNat t26) 0) (2 ^ (min (Int.toNat (IntKind.wrap .u64 (64 - rest))) 64))))))))))))))))))) (e0 z))

def Gj119 (N : Nat) (Sj1 : TSj1) (x : List Int) (n : Int) (k0 : List Int -> Bool) : Bool :=
  (cond ((((List.length x) : Nat) : Int) == 0) (k0 []) ((fits .i64 (IntKind.wrap .u64 (Int.tdiv n 64))) && ((fits .i64 ((IntKind.wrap .u64 (Int.tdiv n 64)) + (((List.length x) : Nat) : Int))) && ((fits .i64 (((IntKind.wrap .u64 (Int.tdiv n 64)) + (((List.length x) : Nat) : Int)) + 1)) && ((mkOk 8 (((IntKind.wrap .u64 (Int.tdiv n 64)) + (((List.length x) : Nat) : Int)) + 1) (((IntKind.wrap .u64 (Int.tdiv n 64)) + (((List.length x) : Nat) : Int)) + 1)) && (iterG N (st_big_left_0 N Sj1 (IntKind.wrap .u64 (Int.tdiv n 64)) (Int.tmod n 64) x (((List.length x) : Nat) : Int) (fun z_1 => (Sj1 z_1 (fun mr mr_1 => ((decide ((mr + mr_1) <= (List.length z_1))) && (k0 (List.take mr_1 (List.drop mr z_1)))))))) (0, (List.replicate (Int.toNat (((IntKind.wrap .u64 (Int.tdiv n 64)) + (((List.length x) : Nat) : Int)) + 1)) (0 : Int)))))))))

def sj119 (N : Nat) : TSj119 := Gj119 N (sj1 N)

abbrev TSj73 : Type := Int -> Bool -> Bool -> List Int -> (Bool -> List Int -> Bool) -> Bool

def Gj73 (N : Nat) (Sj119 : TSj119) (Sj0 : TSj0) (n : Int) (b b_1 : Bool) (b_2 : List Int) (k0 : Bool -> List Int -> Bool) : Bool :=
  (Sj119 b_2 n (fun nsr => (Sj0 b_1 nsr b (fun cr => (k0 cr nsr)))))

def sj73 (N : Nat) : TSj73 := Gj73 N (sj119 N) (sj0 N)

abbrev TSj34 : Type := Int -> Int -> Bool -> List Int -> (Bool -> List Int -> Bool) -> Bool

def Gj34 (N : Nat) (Sj73 : TSj73) (x e : Int) (b : Bool) (b_1 : List Int) (k0 : Bool -> List Int -> Bool) : Bool :=
  ((fits .i64 (x - e)) && (Sj73 (IntKind.wrap .u64 (x - e)) false b b_1 (fun cr nsr => (k0 cr nsr))))

def sj34 (N : Nat) : TSj34 := Gj34 N (sj73 N)

abbrev TSj19 : Type := List Int -> Int -> (Int -> Bool) -> Bool

def Gj19 (N : Nat) (x : List Int) (i : Int) (k0 : Int -> Bool) : Bool :=
  (cond (decide (i < (((List.length x) : Nat) : Int))) ((inR i (List.length x)) && (k0 (List.getD x (Int.toNat i) 0))) (k0 0))

def sj19 (N : Nat) : TSj19 := Gj19 N

abbrev TSj172 : Type := List Int -> List Int -> (List Int -> Bool) -> Bool

def st_big_sum_0 (N : Nat) (Sj19 : TSj19) (Sj79 : TSj79) (Sj1 : TSj1) (x_1 y_1 : List Int) (n t17 : Int) (e0 : Int -> List Int -> Bool) : (Int × Int × List Int) -> ((Int × Int × List Int) -> Bool) -> Bool := fun v_ K => match v_ with
  | (carry, t18, z) => (cond (decide (t18 < t17)) (Sj19 x_1 t18 (fun nr => (Sj19 y_1 t18 (fun nr_1 => (Sj79 nr nr_1 carry (fun nr_2 nr_3 => ((inR t18 (List.length z)) && ((decide ((Int.toNat t18) < (List.length z))) && ((fits .i64 (t18 + 1)) && (K (nr_3, (t18 + 1), (List.set z (Int.toNat t18) nr_2)))))))))))) (e0 carry z))

def Gj172 (N : Nat) (Sj19 : TSj19) (Sj79 : TSj79) (Sj1 : TSj1) (x y : List Int) (k0 : List Int -> Bool) : Bool :=
  ((fits .i64 ((imm true (((List.length x) : Nat) : Int) (((List.length y) : Nat) : Int)) + 1)) && ((mkOk 8 ((imm true (((List.length x) : Nat) : Int) (((List.length y) : Nat) : Int)) + 1) ((imm true (((List.length x) : Nat) : Int) (((List.length y) : Nat) : Int)) + 1)) && (iterG N (st_big_sum_0 N Sj19 Sj79 Sj1 x y (imm true (((List.length x) : Nat) : Int) (((List.length y) : Nat) : Int)) (imm true (((List.length x) : Nat) : Int) (((List.length y) : Nat) : Int)) (fun carry_1 z_1 => ((inR (imm true (((List.length x) : Nat) : Int) (((List.length y) : Nat) : Int)) (List.length z_1)) && ((decide ((Int.toNat (imm true (((List.length x) : Nat) : Int) (((List.length y) : Nat) : Int))) < (List.length z_1))) && (Sj1 (List.set z_1 (Int.toNat (imm true (((List.length x) : Nat) : Int) (((List.length y) : Nat) : Int))) carry_1) (fun mr mr_1 => ((decide ((mr + mr_1) <= (List.length (List.set z_1 (Int.toNat (imm true (((List.length x) : Nat) : Int) (((List.length y) : Nat) : Int))) carry_1)))) && (k0 (List.take mr_1 (List.drop mr (List.set z_1 (Int.toNat (imm true (((List.length x) : Nat) : Int) (((List.length y) : Nat) : Int))) carry_1))))))))))) (0, 0, (List.replicate (Int.toNat ((imm true (((List.length x) : Nat) : Int) (((List.length y) : Nat) : Int)) + 1)) (0 : Int))))))

def sj172 (N : Nat) : TSj172 := Gj172 N (sj19 N) (sj79 N) (sj1 N)

abbrev TSj130 : Type := List Int -> List Int -> (Int -> Bool) -> Bool

def stj223 (N : Nat) (x_1 y_1 : List Int) (e0 : Int -> Bool) (e1 : Bool) : (Int) -> ((Int) -> Bool) -> Bool := fun v_ K => match v_ with
  | i => (cond (decide (i >= 0)) ((inR i (List.length x_1)) && ((inR i (List.length y_1)) && (cond ((List.getD x_1 (Int.toNat i) 0) != (List.getD y_1 (Int.toNat i) 0)) ((inR i (List.length x_1)) && ((inR i (List.length y_1)) && (cond (decide ((List.getD x_1 (Int.toNat i) 0) < (List.getD y_1 (Int.toNat i) 0))) (e0 (-1)) (e0 1)))) ((fits .i64 (i - 1)) && (K (i - 1)))))) e1)

def Gj130 (N : Nat) (x y : List Int) (k0 : Int -> Bool) : Bool :=
  (cond ((((List.length x) : Nat) : Int) != (((List.length y) : Nat) : Int)) (cond (decide ((((List.length x) : Nat) : Int) < (((List.length y) : Nat) : Int))) (k0 (-1)) (k0 1)) ((fits .i64 ((((List.length x) : Nat) : Int) - 1)) && (iterG N (stj223 N x y (fun t4 => (k0 t4)) (k0 0)) ((((List.length x) : Nat) : Int) - 1))))

def sj130 (N : Nat) : TSj130 := Gj130 N

abbrev TSj109 : Type := Int -> Int -> Int -> (Int -> Int -> Bool) -> Bool

def sj109 (N : Nat) : TSj109 := fun x y c k => (decide (c.toNat <= 1)) && k (((x.toNat + 18446744073709551616 - y.toNat - c.toNat) % 18446744073709551616 : Nat) : Int) (cond (decide (x.toNat < y.toNat + c.toNat)) 1 0)

abbrev TSj178 : Type := List Int -> List Int -> (List Int -> Bool) -> Bool

def st_big_less_0 (N : Nat) (Sj19 : TSj19) (Sj109 : TSj109) (Sj1 : TSj1) (x_1 y_1 : List Int) (t12 : Int) (e0 : List Int -> Bool) : (Int × Int × List Int) -> ((Int × Int × List Int) -> Bool) -> Bool := fun v_ K => match v_ with
  | (borrow, t13, z) => (cond (decide (t13 < t12)) ((inR t13 (List.length x_1)) && (Sj19 y_1 t13 (fun nr => (Sj109 (List.getD x_1 (Int.toNat t13) 0) nr borrow (fun nr_1 nr_2 => ((inR t13 (List.length z)) && ((decide ((Int.toNat t13) < (List.length z))) && ((fits .i64 (t13 + 1)) && (K (nr_2, (t13 + 1), (List.set z (Int.toNat t13) nr_1))))))))))) (e0 z))

def Gj178 (N : Nat) (Sj19 : TSj19) (Sj109 : TSj109) (Sj1 : TSj1) (x y : List Int) (k0 : List Int -> Bool) : Bool :=
  ((mkOk 8 (((List.length x) : Nat) : Int) (((List.length x) : Nat) : Int)) && (iterG N (st_big_less_0 N Sj19 Sj109 Sj1 x y (((List.length x) : Nat) : Int) (fun z_1 => (Sj1 z_1 (fun mr mr_1 => ((decide ((mr + mr_1) <= (List.length z_1))) && (k0 (List.take mr_1 (List.drop mr z_1)))))))) (0, 0, (List.replicate (Int.toNat (((List.length x) : Nat) : Int)) (0 : Int)))))

def sj178 (N : Nat) : TSj178 := Gj178 N (sj19 N) (sj109 N) (sj1 N)

abbrev TSj68 : Type := Bool -> List Int -> Bool -> Bool -> List Int -> (Bool -> List Int -> Bool) -> Bool

def Gj68 (N : Nat) (Sj172 : TSj172) (Sj0 : TSj0) (Sj130 : TSj130) (Sj178 : TSj178) (neg : Bool) (y : List Int) (b b_1 : Bool) (b_2 : List Int) (k0 : Bool -> List Int -> Bool) : Bool :=
  (cond (b_1 == neg) (Sj172 b_2 y (fun nsr => (Sj0 neg nsr b (fun cr => (k0 cr nsr))))) (Sj130 b_2 y (fun nr => (cond (decide (nr >= 0)) (Sj178 b_2 y (fun nsr_1 => (Sj0 b_1 nsr_1 b (fun cr_1 => (k0 cr_1 nsr_1))))) (Sj178 y b_2 (fun nsr_2 => (Sj0 neg nsr_2 b (fun cr_2 => (k0 cr_2 nsr_2)))))))))

def sj68 (N : Nat) : TSj68 := Gj68 N (sj172 N) (sj0 N) (sj130 N) (sj178 N)

abbrev TSj27 : Type := Bool -> Bool -> List Int -> Bool -> List Int -> (Bool -> List Int -> Bool) -> Bool

def Gj27 (N : Nat) (Sj68 : TSj68) (b b_1 : Bool) (b_2 : List Int) (b_3 : Bool) (b_4 : List Int) (k0 : Bool -> List Int -> Bool) : Bool :=
  (Sj68 b_3 b_4 b b_1 b_2 (fun cr nsr => (k0 cr nsr)))

def sj27 (N : Nat) : TSj27 := Gj27 N (sj68 N)

abbrev TSj20 : Type := Int -> Int -> Bool -> Bool -> List Int -> (List Int -> Bool) -> (List Int -> Bool) -> (Int -> List Int -> Bool -> List Int -> Bool) -> Bool

def Gj20 (N : Nat) (Sj88 : TSj88) (Sj3 : TSj3) (Sj34 : TSj34) (Sj27 : TSj27) (x y : Int) (b b_1 : Bool) (b_2 : List Int) (k0 : List Int -> Bool) (k1 : List Int -> Bool) (k2 : Int -> List Int -> Bool -> List Int -> Bool) : Bool :=
  (Sj88 b (fun nr nsr => (cond (nr == 0) (k0 nsr) (Sj3 b_1 b_2 (fun nr_1 => (cond (nr_1 == 0) (k1 nsr) (Sj34 x (imm false x y) b nsr (fun cr nsr_1 => (Sj34 y (imm false x y) b_1 b_2 (fun cr_1 nsr_2 => (Sj27 false cr nsr_1 cr_1 nsr_2 (fun cr_2 nsr_3 => (k2 (imm false x y) nsr cr_2 nsr_3)))))))))))))

def sj20 (N : Nat) : TSj20 := Gj20 N (sj88 N) (sj3 N) (sj34 N) (sj27 N)

abbrev TSj4 : Type := Int -> Int -> Bool -> List Int -> Bool -> List Int -> (Bool) -> (Bool) -> (Int -> Bool -> List Int -> Bool) -> Bool

def Gj4 (N : Nat) (Sj3 : TSj3) (Sj34 : TSj34) (Sj27 : TSj27) (x y : Int) (b : Bool) (b_1 : List Int) (b_2 : Bool) (b_3 : List Int) (k0 k1 : Bool) (k2 : Int -> Bool -> List Int -> Bool) : Bool :=
  (Sj3 b b_1 (fun nr => (cond (nr == 0) k0 (Sj3 b_2 b_3 (fun nr_1 => (cond (nr_1 == 0) k1 (Sj34 x (imm false x y) b b_1 (fun cr nsr => (Sj34 y (imm false x y) b_2 b_3 (fun cr_1 nsr_1 => (Sj27 false cr nsr cr_1 nsr_1 (fun cr_2 nsr_2 => (k2 (imm false x y) cr_2 nsr_2)))))))))))))

def sj4 (N : Nat) : TSj4 := Gj4 N (sj3 N) (sj34 N) (sj27 N)

abbrev TSj37 : Type := Bool -> Bool -> List Int -> (Bool -> List Int -> Bool) -> Bool

def Gj37 (N : Nat) (Sj82 : TSj82) (Sj0 : TSj0) (b b_1 : Bool) (b_2 : List Int) (k0 : Bool -> List Int -> Bool) : Bool :=
  (Sj82 b_2 (fun nsr => (Sj0 b_1 nsr b (fun cr => (k0 cr nsr)))))

def sj37 (N : Nat) : TSj37 := Gj37 N (sj82 N) (sj0 N)

abbrev TSj59 : Type := Int -> Bool -> List Int -> (Int -> Bool) -> Bool

def Gj59 (N : Nat) (Sj19 : TSj19) (i : Int) (b : Bool) (b_1 : List Int) (k0 : Int -> Bool) : Bool :=
  ((fits .i64 (Int.tdiv i 64)) && (Sj19 b_1 (Int.tdiv i 64) (fun nr => ((decide (0 <= (Int.tmod i 64))) && (k0 (bitsN .and .u64 (Int.fdiv nr (2 ^ (min (Int.toNat (Int.tmod i 64)) 64))) 1))))))

def sj59 (N : Nat) : TSj59 := Gj59 N (sj19 N)

abbrev TSj11 : Type := Bool -> List Int -> (Int -> Bool) -> Bool

def stj202 (N : Nat) (Sj6 : TSj6) (t8 : List Int) (t9 : Int) (b0 : Bool) (b0_1 : List Int) (e0 : Int -> Bool) (e1 : Bool) : (Int) -> ((Int) -> Bool) -> Bool := fun v_ K => match v_ with
  | t10 => (cond (decide (t10 < t9)) ((inR t10 (List.length t8)) && (cond ((List.getD t8 (Int.toNat t10) 0) != 0) ((fits .i64 (64 * t10)) && (Sj6 (List.getD t8 (Int.toNat t10) 0) (fun nr => ((fits .i64 ((64 * t10) + nr)) && (e0 (IntKind.wrap .u64 ((64 * t10) + nr))))))) ((fits .i64 (t10 + 1)) && (K (t10 + 1))))) e1)

def Gj11 (N : Nat) (Sj6 : TSj6) (b : Bool) (b_1 : List Int) (k0 : Int -> Bool) : Bool :=
  (iterG N (stj202 N Sj6 b_1 (((List.length b_1) : Nat) : Int) b b_1 (fun t2 => (k0 t2)) (k0 0)) 0)

def sj11 (N : Nat) : TSj11 := Gj11 N (sj6 N)

abbrev TSj148 : Type := List Int -> Int -> (List Int -> Bool -> Bool) -> Bool

def st_big_right_0 (N : Nat) (Sj19 : TSj19) (Sj1 : TSj1) (x_1 : List Int) (words rest : Int) (t37 : List Int) (t38 : Int) (e0 : Int -> Bool) : (Int × Int) -> ((Int × Int) -> Bool) -> Bool := fun v_ K => match v_ with
  | (lost, t39) => (cond (decide (t39 < t38)) ((inR t39 (List.length t37)) && ((fits .i64 (t39 + 1)) && (K ((bitsN .or .u64 lost (List.getD t37 (Int.toNat t39) 0)), (t39 + 1))))) (e0 lost))

def st_big_right_2 (N : Nat) (Sj19 : TSj19) (Sj1 : TSj1) (x_2 : List Int) (words_1 rest_1 lost_2 t53 : Int) (e0 : List Int -> Bool) : (Int × List Int) -> ((Int × List Int) -> Bool) -> Bool := fun v_ K => match v_ with
  | (t54, z) => (cond (decide (t54 < t53)) ((fits .i64 (words_1 + t54)) && (Sj19 x_2 (words_1 + t54) (fun nr => ((decide (0 <= rest_1)) && ((fits .i64 (words_1 + t54)) && ((fits .i64 ((words_1 + t54) + 1)) && (Sj19 x_2 ((words_1 + t54) + 1) (fun nr_1 => ((decide (0 <= (IntKind.wrap .u64 (64 - rest_1)))) && ((inR t54 (List.length z)) && ((decide ((Int.toNat t54) < (List.length z))) && ((fits .i64 (t54 + 1)) && (K ((t54 + 1), (List.set z (Int.toNat t54) (bitsN .or .u64 (Int.fdiv nr (2 ^ (min (Int.toNat rest_1) 64))) (IntKind.wrap .u64 (nr_1 * 2 ^ (min (Int.toNat (IntKind.wrap .u64 (64 - rest_1))) 64))))))))))))))))))) (e0 z))

def Gj148 (N : Nat) (Sj19 : TSj19) (Sj1 : TSj1) (x : List Int) (n : Int) (k0 : List Int -> Bool -> Bool) : Bool :=
  (cond (decide ((IntKind.wrap .u64 (Int.tdiv n 64)) >= (IntKind.wrap .u64 (((List.length x) : Nat) : Int)))) (k0 [] (decide ((((List.length x) : Nat) : Int) > 0))) ((fits .i64 (IntKind.wrap .u64 (Int.tdiv n 64))) && ((inR (IntKind.wrap .u64 (Int.tdiv n 64)) (List.length x)) && ((decide (0 <= (Int.tmod n 64))) && ((decide (0 <= (IntKind.wrap .u64 (Int.tdiv n 64)) /\ (IntKind.wrap .u64 (Int.tdiv n 64)) <= (((List.length x) : Nat) : Int))) && (iterG N (st_big_right_0 N Sj19 Sj1 x (IntKind.wrap .u64 (Int.tdiv n 64)) (Int.tmod n 64) (List.drop 0 (List.take (Int.toNat (IntKind.wrap .u64 (Int.tdiv n 64))) x)) (((List.length (List.drop 0 (List.take (Int.toNat (IntKind.wrap .u64 (Int.tdiv n 64))) x))) : Nat) : Int) (fun lost_1 => ((fits .i64 ((((List.length x) : Nat) : Int) - (IntKind.wrap .u64 (Int.tdiv n 64)))) && ((mkOk 8 ((((List.length x) : Nat) : Int) - (IntKind.wrap .u64 (Int.tdiv n 64))) ((((List.length x) : Nat) : Int) - (IntKind.wrap .u64 (Int.tdiv n 64)))) && (iterG N (st_big_right_2 N Sj19 Sj1 x (IntKind.wrap .u64 (Int.tdiv n 64)) (Int.tmod n 64) lost_1 (((List.length (List.replicate (Int.toNat ((((List.length x) : Nat) : Int) - (IntKind.wrap .u64 (Int.tdiv n 64)))) (0 : Int))) : Nat) : Int) (fun z_1 => (Sj1 z_1 (fun mr mr_1 => ((decide ((mr + mr_1) <= (List.length z_1))) && (k0 (List.take mr_1 (List.drop mr z_1)) (lost_1 != 0))))))) (0, (List.replicate (Int.toNat ((((List.length x) : Nat) : Int) - (IntKind.wrap .u64 (Int.tdiv n 64)))) (0 : Int)))))))) ((bitsN .and .u64 (List.getD x (Int.toNat (IntKind.wrap .u64 (Int.tdiv n 64))) 0) (IntKind.wrap .u64 ((IntKind.wrap .u64 ((1 : Int) * 2 ^ (min (Int.toNat (Int.tmod n 64)) 64))) - 1))), 0)))))))

def sj148 (N : Nat) : TSj148 := Gj148 N (sj19 N) (sj1 N)

abbrev TSj17 : Type := Int -> Bool -> List Int -> (Bool -> List Int -> Bool) -> Bool

def Gj17 (N : Nat) (Sj148 : TSj148) (Sj172 : TSj172) (Sj33 : TSj33) (n : Int) (b : Bool) (b_1 : List Int) (k0 : Bool -> List Int -> Bool) : Bool :=
  (Sj148 b_1 n (fun nsr cr => (cond (b == true) (cond cr (Sj172 nsr [1] (fun nsr_1 => (Sj33 b nsr_1 b b_1 (fun cr_1 => (k0 cr_1 nsr_1))))) (Sj33 b nsr b b_1 (fun cr_2 => (k0 cr_2 nsr)))) (Sj33 b nsr b b_1 (fun cr_3 => (k0 cr_3 nsr))))))

def sj17 (N : Nat) : TSj17 := Gj17 N (sj148 N) (sj172 N) (sj33 N)

abbrev TSj21 : Type := Int -> Bool -> List Int -> (Int -> Bool -> List Int -> Bool) -> Bool

def stj200 (N : Nat) (Sj37 : TSj37) (Sj3 : TSj3) (Sj59 : TSj59) (Sj11 : TSj11) (Sj17 : TSj17) (b0 : Bool) (b0_1 : List Int) (t2 : Value) (t2_1 : Int) (e0 : Int -> Bool -> List Int -> Bool) : (Int × Bool × List Int) -> ((Int × Bool × List Int) -> Bool) -> Bool := fun v_ K => match v_ with
  | (e, n, n_1) => (Sj3 n n_1 (fun nr => (cond ((nr != 0) == true) (Sj59 0 n n_1 (fun nr_1 => (cond (nr_1 == 0) (Sj11 n n_1 (fun nr_2 => (Sj17 nr_2 n n_1 (fun cr_1 nsr_1 => ((fits .i64 nr_2) && ((fits .i64 (e + nr_2)) && (K ((e + nr_2), cr_1, nsr_1)))))))) (e0 e n n_1)))) (e0 e n n_1))))

def Gj21 (N : Nat) (Sj37 : TSj37) (Sj3 : TSj3) (Sj59 : TSj59) (Sj11 : TSj11) (Sj17 : TSj17) (x : Int) (b : Bool) (b_1 : List Int) (k0 : Int -> Bool -> List Int -> Bool) : Bool :=
  (Sj37 false b b_1 (fun cr nsr => (iterG N (stj200 N Sj37 Sj3 Sj59 Sj11 Sj17 b b_1 (.pointer none) 0 (fun e_1 n_2 n_3 => (k0 e_1 n_2 n_3))) (x, cr, nsr))))

def sj21 (N : Nat) : TSj21 := Gj21 N (sj37 N) (sj3 N) (sj59 N) (sj11 N) (sj17 N)

abbrev TSj108 : Type := Int -> (Int -> Bool) -> Bool

def Jj204 (N : Nat) (x x_2 n_1 : Int) (k0 : Int -> Bool) : Bool :=
  (cond (decide (x_2 >= 256)) ((fits .i64 (n_1 + 8)) && ((inR (IntKind.wrap .u8 (Int.fdiv x_2 (2 ^ 8))) 256) && ((fits .i64 (List.getD strTab_11c1601c (Int.toNat (IntKind.wrap .u8 (Int.fdiv x_2 (2 ^ 8)))) 0)) && ((fits .i64 ((n_1 + 8) + (List.getD strTab_11c1601c (Int.toNat (IntKind.wrap .u8 (Int.fdiv x_2 (2 ^ 8)))) 0))) && (k0 ((n_1 + 8) + (List.getD strTab_11c1601c (Int.toNat (IntKind.wrap .u8 (Int.fdiv x_2 (2 ^ 8)))) 0))))))) ((inR (IntKind.wrap .u8 x_2) 256) && ((fits .i64 (List.getD strTab_11c1601c (Int.toNat (IntKind.wrap .u8 x_2)) 0)) && ((fits .i64 (n_1 + (List.getD strTab_11c1601c (Int.toNat (IntKind.wrap .u8 x_2)) 0))) && (k0 (n_1 + (List.getD strTab_11c1601c (Int.toNat (IntKind.wrap .u8 x_2)) 0)))))))

def Jj201 (N : Nat) (x x_1 n : Int) (k0 : Int -> Bool) : Bool :=
  (cond (decide (x_1 >= 65536)) ((fits .i64 (n + 16)) && (Jj204 N x (Int.fdiv x_1 (2 ^ 16)) (n + 16) k0)) (Jj204 N x x_1 n k0))

def Gj108 (N : Nat) (x : Int) (k0 : Int -> Bool) : Bool :=
  (cond (decide (x >= 4294967296)) (Jj201 N x (Int.fdiv x (2 ^ 32)) 32 k0) (Jj201 N x x 0 k0))

def sj108 (N : Nat) : TSj108 := Gj108 N

abbrev TSj150 : Type := List Int -> (Int -> Bool) -> Bool

def Gj150 (N : Nat) (Sj108 : TSj108) (x : List Int) (k0 : Int -> Bool) : Bool :=
  (cond ((((List.length x) : Nat) : Int) == 0) (k0 0) ((fits .i64 ((((List.length x) : Nat) : Int) - 1)) && ((fits .i64 (64 * ((((List.length x) : Nat) : Int) - 1))) && ((fits .i64 ((((List.length x) : Nat) : Int) - 1)) && ((inR ((((List.length x) : Nat) : Int) - 1) (List.length x)) && (Sj108 (List.getD x (Int.toNat ((((List.length x) : Nat) : Int) - 1)) 0) (fun nr => ((fits .i64 ((64 * ((((List.length x) : Nat) : Int) - 1)) + nr)) && (k0 ((64 * ((((List.length x) : Nat) : Int) - 1)) + nr))))))))))

def sj150 (N : Nat) : TSj150 := Gj150 N (sj108 N)

abbrev TSj40 : Type := Bool -> List Int -> (Int -> Bool) -> Bool

def Gj40 (N : Nat) (Sj150 : TSj150) (b : Bool) (b_1 : List Int) (k0 : Int -> Bool) : Bool :=
  (Sj150 b_1 (fun nr => (k0 nr)))

def sj40 (N : Nat) : TSj40 := Gj40 N (sj150 N)

abbrev TSj62 : Type := Int -> Bool -> (Bool -> List Int -> Bool) -> Bool

def Gj62 (N : Nat) (Sj142 : TSj142) (Sj0 : TSj0) (n : Int) (b : Bool) (k0 : Bool -> List Int -> Bool) : Bool :=
  (cond (decide (n < 0)) (Sj142 (IntKind.wrap .u64 (0 - (IntKind.wrap .u64 n))) (fun nsr => (Sj0 true nsr b (fun cr => (k0 cr nsr))))) (Sj142 (IntKind.wrap .u64 n) (fun nsr_1 => (Sj0 false nsr_1 b (fun cr_1 => (k0 cr_1 nsr_1))))))

def sj62 (N : Nat) : TSj62 := Gj62 N (sj142 N) (sj0 N)

abbrev TSj67 : Type := Int -> (Bool -> List Int -> Bool) -> Bool

def Gj67 (N : Nat) (Sj62 : TSj62) (n : Int) (k0 : Bool -> List Int -> Bool) : Bool :=
  (Sj62 n false (fun cr nsr => (k0 cr nsr)))

def sj67 (N : Nat) : TSj67 := Gj67 N (sj62 N)

abbrev TSj39 : Type := Bool -> Bool -> List Int -> (Bool -> List Int -> Bool) -> Bool

def Gj39 (N : Nat) (Sj82 : TSj82) (Sj0 : TSj0) (b b_1 : Bool) (b_2 : List Int) (k0 : Bool -> List Int -> Bool) : Bool :=
  (Sj82 b_2 (fun nsr => (Sj0 false nsr b (fun cr => (k0 cr nsr)))))

def sj39 (N : Nat) : TSj39 := Gj39 N (sj82 N) (sj0 N)

abbrev TSj46 : Type := Bool -> Nat -> Nat -> Bool -> List Int -> (Bool -> Bool) -> Bool

def Gj46 (N : Nat) (neg : Bool) (abs_0 abs_1 : Nat) (b : Bool) (b_1 : List Int) (k0 : Bool -> Bool) : Bool :=
  (cond (neg == true) (k0 (decide (((abs_1 : Nat) : Int) > 0))) (k0 false))

def sj46 (N : Nat) : TSj46 := Gj46 N

abbrev TSj25 : Type := Bool -> Bool -> List Int -> Bool -> List Int -> (Bool -> List Int -> Bool) -> Bool

def stj206 (N : Nat) (Sj1 : TSj1) (Sj46 : TSj46) (t22 : Int) (z x : Bool) (x_1 : List Int) (y : Bool) (y_1 : List Int) (e0 : List Int -> Bool) : (Int × List Int) -> ((Int × List Int) -> Bool) -> Bool := fun v_ K => match v_ with
  | (t23, r) => (cond (decide (t23 < t22)) ((inR t23 (List.length x_1)) && ((inR t23 (List.length y_1)) && ((inR t23 (List.length r)) && ((decide ((Int.toNat t23) < (List.length r))) && ((fits .i64 (t23 + 1)) && (K ((t23 + 1), (List.set r (Int.toNat t23) (bitsN .and .u64 (List.getD x_1 (Int.toNat t23) 0) (List.getD y_1 (Int.toNat t23) 0)))))))))) (e0 r))

def Gj25 (N : Nat) (Sj1 : TSj1) (Sj46 : TSj46) (b b_1 : Bool) (b_2 : List Int) (b_3 : Bool) (b_4 : List Int) (k0 : Bool -> List Int -> Bool) : Bool :=
  ((mkOk 8 (imm false (((List.length b_2) : Nat) : Int) (((List.length b_4) : Nat) : Int)) (imm false (((List.length b_2) : Nat) : Int) (((List.length b_4) : Nat) : Int))) && (iterG N (stj206 N Sj1 Sj46 (((List.length (List.replicate (Int.toNat (imm false (((List.length b_2) : Nat) : Int) (((List.length b_4) : Nat) : Int))) (0 : Int))) : Nat) : Int) b b_1 b_2 b_3 b_4 (fun r_1 => (Sj1 r_1 (fun mr mr_1 => (Sj46 false mr mr_1 b r_1 (fun cr => ((decide ((mr + mr_1) <= (List.length r_1))) && (k0 cr (List.take mr_1 (List.drop mr r_1)))))))))) (0, (List.replicate (Int.toNat (imm false (((List.length b_2) : Nat) : Int) (((List.length b_4) : Nat) : Int))) (0 : Int)))))

def sj25 (N : Nat) : TSj25 := Gj25 N (sj1 N) (sj46 N)

abbrev TSj193 : Type := List Int -> (Int -> Bool) -> Bool

def Gj193 (N : Nat) (Sj19 : TSj19) (x : List Int) (k0 : Int -> Bool) : Bool :=
  (Sj19 x 0 (fun nr => (k0 nr)))

def sj193 (N : Nat) : TSj193 := Gj193 N (sj19 N)

abbrev TSj41 : Type := Bool -> List Int -> (Int -> Bool) -> Bool

def Gj41 (N : Nat) (Sj193 : TSj193) (b : Bool) (b_1 : List Int) (k0 : Int -> Bool) : Bool :=
  (Sj193 b_1 (fun nr => (k0 nr)))

def sj41 (N : Nat) : TSj41 := Gj41 N (sj193 N)

abbrev TSj16 : Type := Int -> Bool -> List Int -> (Bool -> Int -> Int -> Bool) -> (Bool -> Int -> Int -> List Int -> Bool) -> Bool

def stj210 (N : Nat) (Sj21 : TSj21) (Sj3 : TSj3) (Sj40 : TSj40) (Sj67 : TSj67) (Sj39 : TSj39) (Sj25 : TSj25) (Sj41 : TSj41) (Sj17 : TSj17) (b0_2 : Bool) (b0_3 : List Int) (t2_2 : Bool) (t2_3 : Int) (d_2 : Bool) (d_3 : Int) (mask_2 : Bool) (mask_3 : List Int) (e0 : List Int -> Bool) : (Bool × List Int × List Int) -> ((Bool × List Int × List Int) -> Bool) -> Bool := fun v_ K => match v_ with
  | (m_2, m_3, b5) => (Sj3 m_2 m_3 (fun nr_6 => (cond (nr_6 != 0) (Sj25 false m_2 m_3 mask_2 mask_3 (fun cr_5 nsr_5 => (Sj41 cr_5 nsr_5 (fun nr_7 => ((decide ((List.length (b5 ++ [(IntKind.wrap .u32 nr_7)])) * 4 <= 140737488355328)) && (Sj17 32 m_2 m_3 (fun cr_6 nsr_6 => (K (cr_6, nsr_6, (b5 ++ [(IntKind.wrap .u32 nr_7)])))))))))) (e0 b5))))

def Gj16 (N : Nat) (Sj21 : TSj21) (Sj3 : TSj3) (Sj40 : TSj40) (Sj67 : TSj67) (Sj39 : TSj39) (Sj25 : TSj25) (Sj41 : TSj41) (Sj17 : TSj17) (x : Int) (b : Bool) (b_1 : List Int) (k0 : Bool -> Int -> Int -> Bool) (k1 : Bool -> Int -> Int -> List Int -> Bool) : Bool :=
  (Sj21 x b b_1 (fun nr cr nsr => (Sj3 cr nsr (fun nr_1 => (cond (nr_1 == 0) (k0 false 0 0) (Sj40 cr nsr (fun nr_2 => (cond ((decide (nr_2 > 65536)) == false) (cond ((decide (nr > 100000)) == false) (cond (decide (nr < (-100000))) (k0 false 0 2) (Sj3 cr nsr (fun nr_3 => (Sj67 4294967295 (fun cr_1 nsr_1 => (Sj39 false cr nsr (fun cr_2 nsr_2 => (iterG N (stj210 N Sj21 Sj3 Sj40 Sj67 Sj39 Sj25 Sj41 Sj17 b b_1 false 0 (decide (nr_3 < 0)) nr cr_1 nsr_1 (fun b3 => (k1 (decide (nr_3 < 0)) nr 0 b3))) (cr_2, nsr_2, []))))))))) (k0 false 0 2)) (k0 false 0 2)))))))))

def sj16 (N : Nat) : TSj16 := Gj16 N (sj21 N) (sj3 N) (sj40 N) (sj67 N) (sj39 N) (sj25 N) (sj41 N) (sj17 N)

abbrev TSj94 : Type := List Fl -> List Fl -> (Bool -> Int -> Int -> Bool) -> (Bool -> Int -> Int -> List Int -> Bool) -> Bool

def st_dyad_Dot_0 (N : Nat) (Sj121 : TSj121) (Sj175 : TSj175) (Sj18 : TSj18) (Sj20 : TSj20) (Sj4 : TSj4) (Sj16 : TSj16) (b_2 t26_1 : List Fl) (t27_1 : Int) (t4_2 : Bool) (t4_3 : Int) (e0 : Int -> Bool -> List Int -> Bool) : (Int × Int × Bool × List Int) -> ((Int × Int × Bool × List Int) -> Bool) -> Bool := fun v_ K => match v_ with
  | (t28_1, s_1, b2_1, b2_2) => (cond (decide (t28_1 < t27_1)) ((inR t28_1 (List.length t26_1)) && (Sj175 (List.getD t26_1 (Int.toNat t28_1) none) (fun nr_3 cr_5 nsr_4 => ((inR t28_1 (List.length b_2)) && (Sj175 (List.getD b_2 (Int.toNat t28_1) none) (fun nr_4 cr_6 nsr_5 => (Sj18 nr_3 nr_4 cr_5 nsr_4 cr_6 nsr_5 (fun nr_5 cr_7 nsr_6 => (Sj4 s_1 nr_5 b2_1 b2_2 cr_7 nsr_6 ((fits .i64 (t28_1 + 1)) && (K ((t28_1 + 1), nr_5, cr_7, nsr_6))) ((fits .i64 (t28_1 + 1)) && (K ((t28_1 + 1), s_1, b2_1, b2_2))) (fun nr_6 cr_8 nsr_7 => ((fits .i64 (t28_1 + 1)) && (K ((t28_1 + 1), nr_6, cr_8, nsr_7))))))))))))) (e0 s_1 b2_1 b2_2))

def Gj94 (N : Nat) (Sj121 : TSj121) (Sj175 : TSj175) (Sj18 : TSj18) (Sj20 : TSj20) (Sj4 : TSj4) (Sj16 : TSj16) (a b : List Fl) (k0 : Bool -> Int -> Int -> Bool) (k1 : Bool -> Int -> Int -> List Int -> Bool) : Bool :=
  (cond ((((List.length a) : Nat) : Int) != (((List.length b) : Nat) : Int)) (k0 false 0 3) (Sj121 a (fun cr => (cond ((!cr) == false) (Sj121 b (fun cr_1 => (cond (!cr_1) (k0 false 0 4) (iterG N (st_dyad_Dot_0 N Sj121 Sj175 Sj18 Sj20 Sj4 Sj16 b a (((List.length a) : Nat) : Int) false 0 (fun s_2 b2_3 b2_4 => (Sj16 s_2 b2_3 b2_4 (fun cr_9 nr_7 nr_8 => (k0 cr_9 nr_7 nr_8)) (fun cr_10 nr_9 nr_10 nsr_8 => (k1 cr_10 nr_9 nr_10 nsr_8))))) (0, 0, false, []))))) (k0 false 0 4)))))

def sj94 (N : Nat) : TSj94 := Gj94 N (sj121 N) (sj175 N) (sj18 N) (sj20 N) (sj4 N) (sj16 N)

abbrev TSj141 : Type := Bool -> List Int -> Int -> (Bool -> Bool) -> Bool

def Gj141 (N : Nat) (d_0 : Bool) (d_1 : List Int) (d_2 : Int) (k0 : Bool -> Bool) : Bool :=
  (cond ((((List.length d_1) : Nat) : Int) == 0) (cond ((!d_0) == true) (k0 (d_2 == 0)) (k0 false)) (cond ((decide ((((List.length d_1) : Nat) : Int) <= 2048)) == true) ((fits .i64 ((((List.length d_1) : Nat) : Int) - 1)) && ((inR ((((List.length d_1) : Nat) : Int) - 1) (List.length d_1)) && (cond (((List.getD d_1 (Int.toNat ((((List.length d_1) : Nat) : Int) - 1)) 0) != 0) == true) ((inR 0 (List.length d_1)) && (cond (((Int.tmod (List.getD d_1 0 0) 2) == 1) == true) (cond ((decide (d_2 >= (-100000))) == true) (k0 (decide (d_2 <= 100000))) (k0 false)) (k0 false))) (k0 false)))) (k0 false)))

def sj141 (N : Nat) : TSj141 := Gj141 N

abbrev TSj48 : Type := Int -> Bool -> (Bool -> List Int -> Bool) -> Bool

def Gj48 (N : Nat) (Sj119 : TSj119) (Sj0 : TSj0) (n : Int) (b : Bool) (k0 : Bool -> List Int -> Bool) : Bool :=
  (Sj119 [] n (fun nsr => (Sj0 b nsr b (fun cr => (k0 cr nsr)))))

def sj48 (N : Nat) : TSj48 := Gj48 N (sj119 N) (sj0 N)

abbrev TSj47 : Type := Bool -> Nat -> Nat -> Bool -> List Int -> List Int -> (Bool -> Bool) -> Bool

def Gj47 (N : Nat) (neg : Bool) (abs_0 abs_1 : Nat) (b : Bool) (b_1 b_2 : List Int) (k0 : Bool -> Bool) : Bool :=
  (cond (neg == true) (k0 (decide (((abs_1 : Nat) : Int) > 0))) (k0 false))

def sj47 (N : Nat) : TSj47 := Gj47 N

abbrev TSj31 : Type := Bool -> List Int -> Bool -> List Int -> (Bool -> List Int -> Bool) -> Bool

def stj211 (N : Nat) (Sj19 : TSj19) (Sj1 : TSj1) (Sj47 : TSj47) (t22 : Int) (z : Bool) (z_1 : List Int) (y : Bool) (y_1 : List Int) (e0 : List Int -> Bool) : (Int × List Int) -> ((Int × List Int) -> Bool) -> Bool := fun v_ K => match v_ with
  | (t23, r) => (cond (decide (t23 < t22)) (Sj19 z_1 t23 (fun nr => (Sj19 y_1 t23 (fun nr_1 => ((inR t23 (List.length r)) && ((decide ((Int.toNat t23) < (List.length r))) && ((fits .i64 (t23 + 1)) && (K ((t23 + 1), (List.set r (Int.toNat t23) (bitsN .or .u64 nr nr_1))))))))))) (e0 r))

def Gj31 (N : Nat) (Sj19 : TSj19) (Sj1 : TSj1) (Sj47 : TSj47) (b : Bool) (b_1 : List Int) (b_2 : Bool) (b_3 : List Int) (k0 : Bool -> List Int -> Bool) : Bool :=
  ((mkOk 8 (imm true (((List.length b_1) : Nat) : Int) (((List.length b_3) : Nat) : Int)) (imm true (((List.length b_1) : Nat) : Int) (((List.length b_3) : Nat) : Int))) && (iterG N (stj211 N Sj19 Sj1 Sj47 (((List.length (List.replicate (Int.toNat (imm true (((List.length b_1) : Nat) : Int) (((List.length b_3) : Nat) : Int))) (0 : Int))) : Nat) : Int) b b_1 b_2 b_3 (fun r_1 => (Sj1 r_1 (fun mr mr_1 => (Sj47 false mr mr_1 b b_1 r_1 (fun cr => ((decide ((mr + mr_1) <= (List.length r_1))) && (k0 cr (List.take mr_1 (List.drop mr r_1)))))))))) (0, (List.replicate (Int.toNat (imm true (((List.length b_1) : Nat) : Int) (((List.length b_3) : Nat) : Int))) (0 : Int)))))

def sj31 (N : Nat) : TSj31 := Gj31 N (sj19 N) (sj1 N) (sj47 N)

abbrev TSj49 : Type := Int -> Bool -> List Int -> (Bool -> List Int -> Bool) -> Bool

def Gj49 (N : Nat) (Sj119 : TSj119) (Sj33 : TSj33) (n : Int) (b : Bool) (b_1 : List Int) (k0 : Bool -> List Int -> Bool) : Bool :=
  (Sj119 b_1 n (fun nsr => (Sj33 b nsr b b_1 (fun cr => (k0 cr nsr)))))

def sj49 (N : Nat) : TSj49 := Gj49 N (sj119 N) (sj33 N)

abbrev TSj125 : Type := Bool -> List Int -> Int -> (Bool -> List Int -> Bool) -> Bool

def st_dyad_take_0 (N : Nat) (Sj48 : TSj48) (Sj67 : TSj67) (Sj31 : TSj31) (Sj49 : TSj49) (Sj26 : TSj26) (d_3 : Bool) (d_4 : List Int) (d_5 : Int) (t2_2 : Value) (t2_3 : Int) (e0 : Bool -> List Int -> Bool) : (Int × Bool × List Int) -> ((Int × Bool × List Int) -> Bool) -> Bool := fun v_ K => match v_ with
  | (i_1, n_1, n_2) => (cond (decide (i_1 >= 0)) (Sj49 32 n_1 n_2 (fun cr_3 nsr_3 => ((inR i_1 (List.length d_4)) && ((fits .i64 (List.getD d_4 (Int.toNat i_1) 0)) && (Sj67 (List.getD d_4 (Int.toNat i_1) 0) (fun cr_4 nsr_4 => (Sj31 cr_3 nsr_3 cr_4 nsr_4 (fun cr_5 nsr_5 => ((fits .i64 (i_1 - 1)) && (K ((i_1 - 1), cr_5, nsr_5))))))))))) (e0 n_1 n_2))

def Gj125 (N : Nat) (Sj48 : TSj48) (Sj67 : TSj67) (Sj31 : TSj31) (Sj49 : TSj49) (Sj26 : TSj26) (d_0 : Bool) (d_1 : List Int) (d_2 : Int) (k0 : Bool -> List Int -> Bool) : Bool :=
  ((fits .i64 ((((List.length d_1) : Nat) : Int) - 1)) && (iterG N (st_dyad_take_0 N Sj48 Sj67 Sj31 Sj49 Sj26 d_0 d_1 d_2 (.pointer none) 0 (fun n_3 n_4 => (cond d_0 (Sj26 n_3 n_4 (fun cr_6 nsr_6 => (k0 cr_6 nsr_6))) (k0 n_3 n_4)))) (((((List.length d_1) : Nat) : Int) - 1), false, [])))

def sj125 (N : Nat) : TSj125 := Gj125 N (sj48 N) (sj67 N) (sj31 N) (sj49 N) (sj26 N)

abbrev TSj45 : Type := Bool -> Bool -> List Int -> (Bool -> List Int -> Bool) -> Bool

def Gj45 (N : Nat) (Sj82 : TSj82) (Sj0 : TSj0) (b b_1 : Bool) (b_2 : List Int) (k0 : Bool -> List Int -> Bool) : Bool :=
  (Sj82 b_2 (fun nsr => (Sj0 (!b_1) nsr b (fun cr => (k0 cr nsr)))))

def sj45 (N : Nat) : TSj45 := Gj45 N (sj82 N) (sj0 N)

abbrev TSj80 : Type := Int -> Int -> Bool -> List Int -> Bool -> List Int -> (Int -> Bool -> List Int -> Bool) -> (Bool) -> Bool

def Gj80 (N : Nat) (Sj45 : TSj45) (Sj4 : TSj4) (x y : Int) (b : Bool) (b_1 : List Int) (b_2 : Bool) (b_3 : List Int) (k0 : Int -> Bool -> List Int -> Bool) (k1 : Bool) : Bool :=
  (Sj45 false b_2 b_3 (fun cr nsr => (Sj4 x y b b_1 cr nsr (k0 y cr nsr) k1 (fun nr cr_1 nsr_1 => (k0 nr cr_1 nsr_1)))))

def sj80 (N : Nat) : TSj80 := Gj80 N (sj45 N) (sj4 N)

abbrev TSj132 : Type := Bool -> List Int -> Int -> Bool -> List Int -> Int -> (Bool -> Int -> Int -> Bool) -> (Bool -> Int -> Int -> List Int -> Bool) -> Bool

def Gj132 (N : Nat) (Sj141 : TSj141) (Sj125 : TSj125) (Sj80 : TSj80) (Sj16 : TSj16) (a_0 : Bool) (a_1 : List Int) (a_2 : Int) (b_0 : Bool) (b_1 : List Int) (b_2 : Int) (k0 : Bool -> Int -> Int -> Bool) (k1 : Bool -> Int -> Int -> List Int -> Bool) : Bool :=
  (Sj141 a_0 a_1 a_2 (fun cr => (cond ((!cr) == false) (Sj141 b_0 b_1 b_2 (fun cr_1 => (cond (!cr_1) (k0 false 0 30) (Sj125 a_0 a_1 a_2 (fun cr_2 nsr => (Sj125 b_0 b_1 b_2 (fun cr_3 nsr_1 => (Sj80 a_2 b_2 cr_2 nsr cr_3 nsr_1 (fun nr cr_4 nsr_2 => (Sj16 nr cr_4 nsr_2 (fun cr_5 nr_1 nr_2 => (k0 cr_5 nr_1 nr_2)) (fun cr_6 nr_3 nr_4 nsr_3 => (k1 cr_6 nr_3 nr_4 nsr_3)))) (Sj16 a_2 cr_2 nsr (fun cr_7 nr_5 nr_6 => (k0 cr_7 nr_5 nr_6)) (fun cr_8 nr_7 nr_8 nsr_4 => (k1 cr_8 nr_7 nr_8 nsr_4))))))))))) (k0 false 0 30))))

def sj132 (N : Nat) : TSj132 := Gj132 N (sj141 N) (sj125 N) (sj80 N) (sj16 N)

abbrev TSj95 : Type := Bool -> List Int -> Int -> Bool -> List Int -> Int -> (Bool -> Int -> Int -> Bool) -> (Bool -> Int -> Int -> List Int -> Bool) -> Bool

def Gj95 (N : Nat) (Sj132 : TSj132) (a_0 : Bool) (a_1 : List Int) (a_2 : Int) (b_0 : Bool) (b_1 : List Int) (b_2 : Int) (k0 : Bool -> Int -> Int -> Bool) (k1 : Bool -> Int -> Int -> List Int -> Bool) : Bool :=
  (Sj132 a_0 a_1 a_2 b_0 b_1 b_2 (fun cr nr nr_1 => (k0 cr nr nr_1)) (fun cr_1 nr_2 nr_3 nsr => (k1 cr_1 nr_2 nr_3 nsr)))

def sj95 (N : Nat) : TSj95 := Gj95 N (sj132 N)

abbrev TSj42 : Type := Bool -> List Int -> Int -> Bool -> List Int -> Int -> (Int -> Int -> Bool) -> Bool

def Gj42 (N : Nat) (Sj141 : TSj141) (Sj125 : TSj125) (Sj45 : TSj45) (Sj4 : TSj4) (Sj3 : TSj3) (a_0 : Bool) (a_1 : List Int) (a_2 : Int) (b_0 : Bool) (b_1 : List Int) (b_2 : Int) (k0 : Int -> Int -> Bool) : Bool :=
  (Sj141 a_0 a_1 a_2 (fun cr => (cond ((!cr) == false) (Sj141 b_0 b_1 b_2 (fun cr_1 => (cond (!cr_1) (k0 0 30) (Sj125 a_0 a_1 a_2 (fun cr_2 nsr => (Sj125 b_0 b_1 b_2 (fun cr_3 nsr_1 => (Sj45 false cr_3 nsr_1 (fun cr_4 nsr_2 => (Sj4 a_2 b_2 cr_2 nsr cr_4 nsr_2 (Sj3 cr_4 nsr_2 (fun nr => (k0 nr 0))) (Sj3 cr_2 nsr (fun nr_1 => (k0 nr_1 0))) (fun nr_2 cr_5 nsr_3 => (Sj3 cr_5 nsr_3 (fun nr_3 => (k0 nr_3 0)))))))))))))) (k0 0 30))))

def sj42 (N : Nat) : TSj42 := Gj42 N (sj141 N) (sj125 N) (sj45 N) (sj4 N) (sj3 N)

abbrev TSj98 : Type := Fl -> Fl -> Fl -> Fl -> (Bool -> Bool) -> Bool

def Jj236 (N : Nat) (Sj15 : TSj15) (Sj60 : TSj60) (Sj94 : TSj94) (Sj95 : TSj95) (Sj42 : TSj42) (q_0 q_1 q_2 q_3 : Fl) (b7 : List Int) (off_6 : Bool) (off_7 : Int) (k0 : Bool -> Bool) : Bool :=
  (Sj42 false b7 off_7 false [1] (-48) (fun nr_18 nr_19 => (cond ((nr_19 == 0) == true) (k0 (decide (nr_18 <= 0))) (k0 false))))

def Jj235 (N : Nat) (Sj15 : TSj15) (Sj60 : TSj60) (Sj94 : TSj94) (Sj95 : TSj95) (Sj42 : TSj42) (q_0 q_1 q_2 q_3 : Fl) (off_4 : Bool) (off_5 : Int) (k0 : Bool -> Bool) : Bool :=
  (Sj42 false [] off_5 false [1] (-48) (fun nr_16 nr_17 => (cond ((nr_17 == 0) == true) (k0 (decide (nr_16 <= 0))) (k0 false))))

def Jj216 (N : Nat) (Sj15 : TSj15) (Sj60 : TSj60) (Sj94 : TSj94) (Sj95 : TSj95) (Sj42 : TSj42) (q_0 q_1 q_2 q_3 : Fl) (b3 : List Int) (n_2 : Bool) (n_3 : Int) (k0 : Bool -> Bool) : Bool :=
  (Sj95 n_2 b3 n_3 false [1] 0 (fun cr_5 nr_12 nr_13 => (cond (nr_13 != 0) (k0 false) (Jj235 N Sj15 Sj60 Sj94 Sj95 Sj42 q_0 q_1 q_2 q_3 cr_5 nr_12 k0))) (fun cr_6 nr_14 nr_15 nsr_2 => (cond (nr_15 != 0) (k0 false) (Jj236 N Sj15 Sj60 Sj94 Sj95 Sj42 q_0 q_1 q_2 q_3 nsr_2 cr_6 nr_14 k0))))

def Jj234 (N : Nat) (Sj15 : TSj15) (Sj60 : TSj60) (Sj94 : TSj94) (Sj95 : TSj95) (Sj42 : TSj42) (q_0 q_1 q_2 q_3 : Fl) (b6 : List Int) (off_2 : Bool) (off_3 : Int) (k0 : Bool -> Bool) : Bool :=
  (Sj42 false b6 off_3 false [1] (-48) (fun nr_10 nr_11 => (cond ((nr_11 == 0) == true) (k0 (decide (nr_10 <= 0))) (k0 false))))

def Jj233 (N : Nat) (Sj15 : TSj15) (Sj60 : TSj60) (Sj94 : TSj94) (Sj95 : TSj95) (Sj42 : TSj42) (q_0 q_1 q_2 q_3 : Fl) (off : Bool) (off_1 : Int) (k0 : Bool -> Bool) : Bool :=
  (Sj42 false [] off_1 false [1] (-48) (fun nr_8 nr_9 => (cond ((nr_9 == 0) == true) (k0 (decide (nr_8 <= 0))) (k0 false))))

def Jj215 (N : Nat) (Sj15 : TSj15) (Sj60 : TSj60) (Sj94 : TSj94) (Sj95 : TSj95) (Sj42 : TSj42) (q_0 q_1 q_2 q_3 : Fl) (n : Bool) (n_1 : Int) (k0 : Bool -> Bool) : Bool :=
  (Sj95 n [] n_1 false [1] 0 (fun cr_3 nr_4 nr_5 => (cond (nr_5 != 0) (k0 false) (Jj233 N Sj15 Sj60 Sj94 Sj95 Sj42 q_0 q_1 q_2 q_3 cr_3 nr_4 k0))) (fun cr_4 nr_6 nr_7 nsr_1 => (cond (nr_7 != 0) (k0 false) (Jj234 N Sj15 Sj60 Sj94 Sj95 Sj42 q_0 q_1 q_2 q_3 nsr_1 cr_4 nr_6 k0))))

def Gj98 (N : Nat) (Sj15 : TSj15) (Sj60 : TSj60) (Sj94 : TSj94) (Sj95 : TSj95) (Sj42 : TSj42) (q_0 q_1 q_2 q_3 : Fl) (k0 : Bool -> Bool) : Bool :=
  (Sj15 q_0 q_1 q_2 q_3 (fun cr => (cond (!cr) (k0 false) (Sj60 q_0 q_1 q_2 q_3 (Sj94 [q_0, q_1, q_2, q_3] [q_0, q_1, q_2, q_3] (fun cr_1 nr nr_1 => (cond (nr_1 != 0) (k0 false) (Jj215 N Sj15 Sj60 Sj94 Sj95 Sj42 q_0 q_1 q_2 q_3 cr_1 nr k0))) (fun cr_2 nr_2 nr_3 nsr => (cond (nr_3 != 0) (k0 false) (Jj216 N Sj15 Sj60 Sj94 Sj95 Sj42 q_0 q_1 q_2 q_3 nsr cr_2 nr_2 k0))))))))

def sj98 (N : Nat) : TSj98 := Gj98 N (sj15 N) (sj60 N) (sj94 N) (sj95 N) (sj42 N)

abbrev TSj145 : Type := (Int -> Bool -> Bool) -> Bool

def Gj145 (N : Nat) (k0 : Int -> Bool -> Bool) : Bool :=
  (k0 0 false)

def sj145 (N : Nat) : TSj145 := Gj145 N

abbrev TSj163 : Type := Int -> Int -> (Int -> Int -> Bool) -> Bool

def st_z01_odd_0 (N : Nat) (e0 : Int -> Int -> Bool) : (Int × Int) -> ((Int × Int) -> Bool) -> Bool := fun v_ K => match v_ with
  | (m_1, e_1) => (cond ((Int.tmod m_1 2) == 0) ((fits .i64 (e_1 + 1)) && (K ((IntKind.wrap .u64 (Int.tdiv m_1 2)), (e_1 + 1)))) (e0 m_1 e_1))

def Gj163 (N : Nat) (m e : Int) (k0 : Int -> Int -> Bool) : Bool :=
  (cond (m == 0) (k0 0 0) (iterG N (st_z01_odd_0 N (fun m_2 e_2 => (k0 m_2 e_2))) (m, e)))

def sj163 (N : Nat) : TSj163 := Gj163 N

abbrev TSj154 : Type := Fl -> (Bool -> Int -> Int -> Int -> Bool) -> Bool

def Jj218 (N : Nat) (Sj105 : TSj105) (Sj163 : TSj163) (x : Fl) (neg : Bool) (e f : Int) (k0 : Bool -> Int -> Int -> Int -> Bool) : Bool :=
  ((fits .i64 (e - 1074)) && (Sj163 f (e - 1074) (fun nr_2 nr_3 => (k0 neg nr_2 nr_3 0))))

def Gj154 (N : Nat) (Sj105 : TSj105) (Sj163 : TSj163) (x : Fl) (k0 : Bool -> Int -> Int -> Int -> Bool) : Bool :=
  (Sj105 x (fun cr nr nr_1 => (cond (nr == 2047) (k0 false 0 0 4) (cond (decide (nr > 0)) ((fits .i64 (nr - 1)) && (Jj218 N Sj105 Sj163 x cr (nr - 1) (IntKind.wrap .u64 (nr_1 + 4503599627370496)) k0)) (Jj218 N Sj105 Sj163 x cr nr nr_1 k0)))))

def sj154 (N : Nat) : TSj154 := Gj154 N (sj105 N) (sj163 N)

abbrev TSj128 : Type := Bool -> Bool -> List Int -> List Int -> (Bool -> Nat -> Nat -> Bool) -> Bool

def Gj128 (N : Nat) (Sj10 : TSj10) (neg b : Bool) (b_1 b_2 : List Int) (k0 : Bool -> Nat -> Nat -> Bool) : Bool :=
  (Sj10 b_2 (fun mr mr_1 => (cond (neg == true) (k0 (decide (((mr_1 : Nat) : Int) > 0)) mr mr_1) (k0 false mr mr_1))))

def sj128 (N : Nat) : TSj128 := Gj128 N (sj10 N)

abbrev TSj124 : Type := Bool -> List Int -> (Bool -> List Int -> Bool) -> Bool

def Gj124 (N : Nat) (Sj128 : TSj128) (b : Bool) (b_1 : List Int) (k0 : Bool -> List Int -> Bool) : Bool :=
  ((decide ((List.length ([] ++ b_1)) * 4 <= 140737488355328)) && (Sj128 (!b) b b_1 ([] ++ b_1) (fun cr mr mr_1 => ((decide ((mr + mr_1) <= (List.length ([] ++ b_1)))) && (k0 cr (List.take mr_1 (List.drop mr ([] ++ b_1))))))))

def sj124 (N : Nat) : TSj124 := Gj124 N (sj128 N)

abbrev TSj189 : Type := Fl -> (Int -> Bool -> List Int -> Bool) -> Bool

def Gj189 (N : Nat) (Sj154 : TSj154) (Sj54 : TSj54) (Sj124 : TSj124) (x : Fl) (k0 : Int -> Bool -> List Int -> Bool) : Bool :=
  (Sj154 x (fun cr nr nr_1 nr_2 => (Sj54 nr false (fun cr_1 nsr => (cond cr (Sj124 cr_1 nsr (fun cr_2 nsr_1 => (k0 nr_1 cr_2 nsr_1))) (k0 nr_1 cr_1 nsr))))))

def sj189 (N : Nat) : TSj189 := Gj189 N (sj154 N) (sj54 N) (sj124 N)

abbrev TSj153 : Type := List Int -> List Int -> (List Int -> Bool) -> Bool

def st_z00_times_2 (N : Nat) (Sj10 : TSj10) (a_2 b_2 : List Int) (i_1 : Int) (e0 : Int -> List Int -> Bool) : (Int × Int × List Int) -> ((Int × Int × List Int) -> Bool) -> Bool := fun v_ K => match v_ with
  | (carry, k_, out_1) => (cond (decide (k_ < (((List.length b_2) : Nat) : Int))) ((inR i_1 (List.length a_2)) && ((inR k_ (List.length b_2)) && ((fits .i64 (i_1 + k_)) && ((inR (i_1 + k_) (List.length out_1)) && ((decide ((Int.toNat (i_1 + k_)) < (List.length out_1))) && ((fits .i64 (i_1 + k_)) && ((inR (i_1 + k_) (List.length out_1)) && ((decide ((Int.toNat (i_1 + k_)) < (List.length out_1))) && ((fits .i64 (k_ + 1)) && (K ((Int.fdiv (IntKind.wrap .u64 ((IntKind.wrap .u64 ((IntKind.wrap .u64 ((IntKind.wrap .u64 (List.getD a_2 (Int.toNat i_1) 0)) * (IntKind.wrap .u64 (List.getD b_2 (Int.toNat k_) 0)))) + (IntKind.wrap .u64 (List.getD out_1 (Int.toNat (i_1 + k_)) 0)))) + carry)) (2 ^ 32)), (k_ + 1), (List.set out_1 (Int.toNat (i_1 + k_)) (IntKind.wrap .u32 (IntKind.wrap .u64 ((IntKind.wrap .u64 ((IntKind.wrap .u64 ((IntKind.wrap .u64 (List.getD a_2 (Int.toNat i_1) 0)) * (IntKind.wrap .u64 (List.getD b_2 (Int.toNat k_) 0)))) + (IntKind.wrap .u64 (List.getD out_1 (Int.toNat (i_1 + k_)) 0)))) + carry))))))))))))))) (e0 carry out_1))

def st_z00_times_0 (N : Nat) (Sj10 : TSj10) (a_1 b_1 : List Int) (e0 : List Int -> Bool) : (Int × List Int) -> ((Int × List Int) -> Bool) -> Bool := fun v_ K => match v_ with
  | (i, out) => (cond (decide (i < (((List.length a_1) : Nat) : Int))) (iterG N (st_z00_times_2 N Sj10 a_1 b_1 i (fun carry_1 out_2 => ((fits .i64 (i + (((List.length b_1) : Nat) : Int))) && ((inR (i + (((List.length b_1) : Nat) : Int)) (List.length out_2)) && ((decide ((Int.toNat (i + (((List.length b_1) : Nat) : Int))) < (List.length out_2))) && ((fits .i64 (i + 1)) && (K ((i + 1), (List.set out_2 (Int.toNat (i + (((List.length b_1) : Nat) : Int))) (IntKind.wrap .u32 carry_1)))))))))) (0, 0, out)) (e0 out))

def Gj153 (N : Nat) (Sj10 : TSj10) (a b : List Int) (k0 : List Int -> Bool) : Bool :=
  ((fits .i64 ((((List.length a) : Nat) : Int) + (((List.length b) : Nat) : Int))) && ((mkOk 4 ((((List.length a) : Nat) : Int) + (((List.length b) : Nat) : Int)) ((((List.length a) : Nat) : Int) + (((List.length b) : Nat) : Int))) && (iterG N (st_z00_times_0 N Sj10 a b (fun out_3 => (Sj10 out_3 (fun mr mr_1 => ((decide ((mr + mr_1) <= (List.length out_3))) && (k0 (List.take mr_1 (List.drop mr out_3)))))))) (0, (List.replicate (Int.toNat ((((List.length a) : Nat) : Int) + (((List.length b) : Nat) : Int))) (0 : Int))))))

def sj153 (N : Nat) : TSj153 := Gj153 N (sj10 N)

abbrev TSj84 : Type := Bool -> Bool -> List Int -> Bool -> List Int -> (Bool -> List Int -> Bool) -> Bool

def Gj84 (N : Nat) (Sj153 : TSj153) (Sj43 : TSj43) (b b_1 : Bool) (b_2 : List Int) (b_3 : Bool) (b_4 : List Int) (k0 : Bool -> List Int -> Bool) : Bool :=
  (Sj153 b_2 b_4 (fun nsr => (Sj43 (b_1 != b_3) nsr b (fun cr nsr_1 => (k0 cr nsr_1)))))

def sj84 (N : Nat) : TSj84 := Gj84 N (sj153 N) (sj43 N)

abbrev TSj24 : Type := Int -> Int -> Bool -> List Int -> Bool -> List Int -> (Int -> Bool -> List Int -> Bool) -> Bool

def Gj24 (N : Nat) (Sj84 : TSj84) (x y : Int) (b : Bool) (b_1 : List Int) (b_2 : Bool) (b_3 : List Int) (k0 : Int -> Bool -> List Int -> Bool) : Bool :=
  (Sj84 false b b_1 b_2 b_3 (fun cr nsr => ((fits .i64 (x + y)) && (k0 (x + y) cr nsr))))

def sj24 (N : Nat) : TSj24 := Gj24 N (sj84 N)

abbrev TSj135 : Type := Bool -> (Int -> List Int -> Bool) -> Bool

def Gj135 (N : Nat) (b : Bool) (k0 : Int -> List Int -> Bool) : Bool :=
  (k0 0 [])

def sj135 (N : Nat) : TSj135 := Gj135 N

abbrev TSj32 : Type := Int -> Int -> Bool -> List Int -> (Bool) -> (Bool -> List Int -> Bool) -> Bool

def Gj32 (N : Nat) (Sj78 : TSj78) (x e : Int) (b : Bool) (b_1 : List Int) (k0 : Bool) (k1 : Bool -> List Int -> Bool) : Bool :=
  (cond (decide (e >= x)) k0 ((fits .i64 (x - e)) && (Sj78 (IntKind.wrap .u64 (x - e)) false b b_1 (fun cr nsr => (k1 cr nsr)))))

def sj32 (N : Nat) : TSj32 := Gj32 N (sj78 N)

abbrev TSj51 : Type := Bool -> Bool -> List Int -> Bool -> List Int -> (Bool -> List Int -> Bool) -> Bool

def Gj51 (N : Nat) (Sj57 : TSj57) (b b_1 : Bool) (b_2 : List Int) (b_3 : Bool) (b_4 : List Int) (k0 : Bool -> List Int -> Bool) : Bool :=
  (Sj57 false b b_1 b_2 b_3 b_4 (fun cr nsr => (k0 cr nsr)))

def sj51 (N : Nat) : TSj51 := Gj51 N (sj57 N)

abbrev TSj23 : Type := Int -> Int -> Bool -> Bool -> List Int -> (List Int -> Bool) -> (List Int -> Bool) -> (Int -> List Int -> Bool -> List Int -> Bool) -> Bool

def Gj23 (N : Nat) (Sj135 : TSj135) (Sj38 : TSj38) (Sj32 : TSj32) (Sj51 : TSj51) (x y : Int) (b b_1 : Bool) (b_2 : List Int) (k0 : List Int -> Bool) (k1 : List Int -> Bool) (k2 : Int -> List Int -> Bool -> List Int -> Bool) : Bool :=
  (Sj135 b (fun nr nsr => (cond (nr == 0) (k0 nsr) (Sj38 b_1 b_2 (fun nr_1 => (cond (nr_1 == 0) (k1 nsr) (Sj32 x (imm false x y) b nsr (Sj32 y (imm false x y) b_1 b_2 (Sj51 false b nsr b_1 b_2 (fun cr nsr_1 => (k2 (imm false x y) nsr cr nsr_1))) (fun cr_1 nsr_2 => (Sj51 false b nsr cr_1 nsr_2 (fun cr_2 nsr_3 => (k2 (imm false x y) nsr cr_2 nsr_3))))) (fun cr_3 nsr_4 => (Sj32 y (imm false x y) b_1 b_2 (Sj51 false cr_3 nsr_4 b_1 b_2 (fun cr_4 nsr_5 => (k2 (imm false x y) nsr cr_4 nsr_5))) (fun cr_5 nsr_6 => (Sj51 false cr_3 nsr_4 cr_5 nsr_6 (fun cr_6 nsr_7 => (k2 (imm false x y) nsr cr_6 nsr_7)))))))))))))

def sj23 (N : Nat) : TSj23 := Gj23 N (sj135 N) (sj38 N) (sj32 N) (sj51 N)

abbrev TSj8 : Type := Int -> Int -> Bool -> List Int -> Bool -> List Int -> (Bool) -> (Bool) -> (Int -> Bool -> List Int -> Bool) -> Bool

def Gj8 (N : Nat) (Sj38 : TSj38) (Sj32 : TSj32) (Sj51 : TSj51) (x y : Int) (b : Bool) (b_1 : List Int) (b_2 : Bool) (b_3 : List Int) (k0 k1 : Bool) (k2 : Int -> Bool -> List Int -> Bool) : Bool :=
  (Sj38 b b_1 (fun nr => (cond (nr == 0) k0 (Sj38 b_2 b_3 (fun nr_1 => (cond (nr_1 == 0) k1 (Sj32 x (imm false x y) b b_1 (Sj32 y (imm false x y) b_2 b_3 (Sj51 false b b_1 b_2 b_3 (fun cr nsr => (k2 (imm false x y) cr nsr))) (fun cr_1 nsr_1 => (Sj51 false b b_1 cr_1 nsr_1 (fun cr_2 nsr_2 => (k2 (imm false x y) cr_2 nsr_2))))) (fun cr_3 nsr_3 => (Sj32 y (imm false x y) b_2 b_3 (Sj51 false cr_3 nsr_3 b_2 b_3 (fun cr_4 nsr_4 => (k2 (imm false x y) cr_4 nsr_4))) (fun cr_5 nsr_5 => (Sj51 false cr_3 nsr_3 cr_5 nsr_5 (fun cr_6 nsr_6 => (k2 (imm false x y) cr_6 nsr_6)))))))))))))

def sj8 (N : Nat) : TSj8 := Gj8 N (sj38 N) (sj32 N) (sj51 N)

abbrev TSj191 : Type := List Fl -> List Fl -> (Int -> Bool -> List Int -> Bool) -> Bool

def st_z03_Dot_0 (N : Nat) (Sj145 : TSj145) (Sj189 : TSj189) (Sj24 : TSj24) (Sj23 : TSj23) (Sj8 : TSj8) (a_2 b_2 : List Fl) (t9_1 : Int) (t4_2 : Value) (t4_3 : Int) (e0 : Int -> Bool -> List Int -> Bool) : (Int × Int × Bool × List Int) -> ((Int × Int × Bool × List Int) -> Bool) -> Bool := fun v_ K => match v_ with
  | (t10_1, s_1, b2_1, b2_2) => (cond (decide (t10_1 < t9_1)) ((inR t10_1 (List.length a_2)) && (Sj189 (List.getD a_2 (Int.toNat t10_1) none) (fun nr_4 cr_4 nsr_4 => ((inR t10_1 (List.length b_2)) && (Sj189 (List.getD b_2 (Int.toNat t10_1) none) (fun nr_5 cr_5 nsr_5 => (Sj24 nr_4 nr_5 cr_4 nsr_4 cr_5 nsr_5 (fun nr_6 cr_6 nsr_6 => (Sj8 s_1 nr_6 b2_1 b2_2 cr_6 nsr_6 ((fits .i64 (t10_1 + 1)) && (K ((t10_1 + 1), nr_6, cr_6, nsr_6))) ((fits .i64 (t10_1 + 1)) && (K ((t10_1 + 1), s_1, b2_1, b2_2))) (fun nr_7 cr_7 nsr_7 => ((fits .i64 (t10_1 + 1)) && (K ((t10_1 + 1), nr_7, cr_7, nsr_7))))))))))))) (e0 s_1 b2_1 b2_2))

def Gj191 (N : Nat) (Sj145 : TSj145) (Sj189 : TSj189) (Sj24 : TSj24) (Sj23 : TSj23) (Sj8 : TSj8) (a b : List Fl) (k0 : Int -> Bool -> List Int -> Bool) : Bool :=
  (Sj145 (fun nr cr => (iterG N (st_z03_Dot_0 N Sj145 Sj189 Sj24 Sj23 Sj8 a b (((List.length a) : Nat) : Int) (.pointer none) 0 (fun s_2 b2_3 b2_4 => (k0 s_2 b2_3 b2_4))) (0, nr, cr, []))))

def sj191 (N : Nat) : TSj191 := Gj191 N (sj145 N) (sj189 N) (sj24 N) (sj23 N) (sj8 N)

abbrev TSj171 : Type := Int -> (Int -> Bool -> List Int -> Bool) -> Bool

def Gj171 (N : Nat) (Sj13 : TSj13) (n : Int) (k0 : Int -> Bool -> List Int -> Bool) : Bool :=
  (Sj13 n (fun cr nsr => (k0 0 cr nsr)))

def sj171 (N : Nat) : TSj171 := Gj171 N (sj13 N)

abbrev TSj112 : Type := Bool -> Bool -> List Int -> (Bool -> List Int -> Bool) -> Bool

def Gj112 (N : Nat) (Sj63 : TSj63) (b b_1 : Bool) (b_2 : List Int) (k0 : Bool -> List Int -> Bool) : Bool :=
  ((decide ((List.length ([] ++ b_2)) * 4 <= 140737488355328)) && (Sj63 false b ([] ++ b_2) (fun cr mr mr_1 => ((decide ((mr + mr_1) <= (List.length ([] ++ b_2)))) && (k0 cr (List.take mr_1 (List.drop mr ([] ++ b_2))))))))

def sj112 (N : Nat) : TSj112 := Gj112 N (sj63 N)

abbrev TSj61 : Type := Int -> Bool -> List Int -> (Bool -> List Int -> Bool) -> Bool

def Gj61 (N : Nat) (Sj112 : TSj112) (x : Int) (b : Bool) (b_1 : List Int) (k0 : Bool -> List Int -> Bool) : Bool :=
  (Sj112 false b b_1 (fun cr nsr => (k0 cr nsr)))

def sj61 (N : Nat) : TSj61 := Gj61 N (sj112 N)

abbrev TSj133 : Type := Fl -> Fl -> Fl -> Fl -> (Int -> Bool -> List Int -> Bool) -> Bool

def Gj133 (N : Nat) (Sj117 : TSj117) (Sj191 : TSj191) (Sj171 : TSj171) (Sj8 : TSj8) (Sj61 : TSj61) (q_0 q_1 q_2 q_3 : Fl) (k0 : Int -> Bool -> List Int -> Bool) : Bool :=
  (Sj117 q_0 q_1 q_2 q_3 (fun xsr => (Sj117 q_0 q_1 q_2 q_3 (fun xsr_1 => (Sj191 xsr xsr_1 (fun nr cr nsr => (Sj171 (-1) (fun nr_1 cr_1 nsr_1 => (Sj8 nr nr_1 cr nsr cr_1 nsr_1 (Sj61 nr_1 cr_1 nsr_1 (fun cr_2 nsr_2 => (k0 nr_1 cr_2 nsr_2))) (Sj61 nr cr nsr (fun cr_3 nsr_3 => (k0 nr cr_3 nsr_3))) (fun nr_2 cr_4 nsr_4 => (Sj61 nr_2 cr_4 nsr_4 (fun cr_5 nsr_5 => (k0 nr_2 cr_5 nsr_5)))))))))))))

def sj133 (N : Nat) : TSj133 := Gj133 N (sj117 N) (sj191 N) (sj171 N) (sj8 N) (sj61 N)

abbrev TSj170 : Type := Int -> (Bool -> List Int -> Bool) -> Bool

def Gj170 (N : Nat) (Sj13 : TSj13) (e : Int) (k0 : Bool -> List Int -> Bool) : Bool :=
  (Sj13 1 (fun cr nsr => (k0 cr nsr)))

def sj170 (N : Nat) : TSj170 := Gj170 N (sj13 N)

abbrev TSj114 : Type := Bool -> Bool -> List Int -> (Bool -> List Int -> Bool) -> Bool

def Gj114 (N : Nat) (Sj63 : TSj63) (b b_1 : Bool) (b_2 : List Int) (k0 : Bool -> List Int -> Bool) : Bool :=
  ((decide ((List.length ([] ++ b_2)) * 4 <= 140737488355328)) && (Sj63 (!b_1) b ([] ++ b_2) (fun cr mr mr_1 => ((decide ((mr + mr_1) <= (List.length ([] ++ b_2)))) && (k0 cr (List.take mr_1 (List.drop mr ([] ++ b_2))))))))

def sj114 (N : Nat) : TSj114 := Gj114 N (sj63 N)

abbrev TSj70 : Type := Int -> Bool -> List Int -> (Bool -> List Int -> Bool) -> Bool

def Gj70 (N : Nat) (Sj114 : TSj114) (x : Int) (b : Bool) (b_1 : List Int) (k0 : Bool -> List Int -> Bool) : Bool :=
  (Sj114 false b b_1 (fun cr nsr => (k0 cr nsr)))

def sj70 (N : Nat) : TSj70 := Gj70 N (sj114 N)

abbrev TSj53 : Type := Int -> Int -> Bool -> List Int -> Bool -> List Int -> (Int -> Bool) -> Bool

def Gj53 (N : Nat) (Sj70 : TSj70) (Sj8 : TSj8) (Sj38 : TSj38) (x y : Int) (b : Bool) (b_1 : List Int) (b_2 : Bool) (b_3 : List Int) (k0 : Int -> Bool) : Bool :=
  (Sj70 y b_2 b_3 (fun cr nsr => (Sj8 x y b b_1 cr nsr (Sj38 cr nsr (fun nr => (k0 nr))) (Sj38 b b_1 (fun nr_1 => (k0 nr_1))) (fun nr_2 cr_1 nsr_1 => (Sj38 cr_1 nsr_1 (fun nr_3 => (k0 nr_3)))))))

def sj53 (N : Nat) : TSj53 := Gj53 N (sj70 N) (sj8 N) (sj38 N)

abbrev TSj158 : Type := Fl -> Fl -> Fl -> Fl -> (Bool -> Bool) -> Bool

def Gj158 (N : Nat) (Sj44 : TSj44) (Sj133 : TSj133) (Sj170 : TSj170) (Sj53 : TSj53) (q_0 q_1 q_2 q_3 : Fl) (k0 : Bool -> Bool) : Bool :=
  (Sj44 q_0 q_1 q_2 q_3 (fun cr => (cond (cr == true) (Sj133 q_0 q_1 q_2 q_3 (fun nr cr_1 nsr => (Sj170 (-48) (fun cr_2 nsr_1 => (Sj53 nr (-48) cr_1 nsr cr_2 nsr_1 (fun nr_1 => (k0 (decide (nr_1 <= 0))))))))) (k0 false))))

def sj158 (N : Nat) : TSj158 := Gj158 N (sj44 N) (sj133 N) (sj170 N) (sj53 N)

abbrev TSj147 : Type := Fl -> Fl -> Fl -> Fl -> Fl -> Fl -> (Fl -> Fl -> Fl -> Bool) -> Bool

def Gj147 (N : Nat) (a_0 a_1 a_2 b_0 b_1 b_2 : Fl) (k0 : Fl -> Fl -> Fl -> Bool) : Bool :=
  (k0 (fsub (fmul a_1 b_2) (fmul a_2 b_1)) (fsub (fmul a_2 b_0) (fmul a_0 b_2)) (fsub (fmul a_0 b_1) (fmul a_1 b_0)))

def sj147 (N : Nat) : TSj147 := Gj147 N

abbrev TSj184 : Type := Fl -> Fl -> Fl -> (Fl -> Fl -> Fl -> Int -> Bool) -> Bool

def Gj184 (N : Nat) (Sj35 : TSj35) (v_0 v_1 v_2 : Fl) (k0 : Fl -> Fl -> Fl -> Int -> Bool) : Bool :=
  (Sj35 [v_0, v_1, v_2] (fun cr => (cond (!cr) (k0 (some 0) (some 0) (some 0) 5) (k0 v_0 v_1 v_2 0))))

def sj184 (N : Nat) : TSj184 := Gj184 N (sj35 N)

abbrev TSj168 : Type := Fl -> Fl -> Fl -> Fl -> Fl -> Fl -> Fl -> (Fl -> Fl -> Fl -> Int -> Bool) -> Bool

def Gj168 (N : Nat) (Sj15 : TSj15) (Sj35 : TSj35) (Sj147 : TSj147) (Sj184 : TSj184) (q_0 q_1 q_2 q_3 v_0 v_1 v_2 : Fl) (k0 : Fl -> Fl -> Fl -> Int -> Bool) : Bool :=
  (Sj15 q_0 q_1 q_2 q_3 (fun cr => (cond ((!cr) == false) (Sj35 [v_0, v_1, v_2] (fun cr_1 => (cond (!cr_1) (k0 (some 0) (some 0) (some 0) 4) (Sj147 q_1 q_2 q_3 v_0 v_1 v_2 (fun xr xr_1 xr_2 => (Sj147 q_1 q_2 q_3 (fmul xr (some 4611686018427387904)) (fmul xr_1 (some 4611686018427387904)) (fmul xr_2 (some 4611686018427387904)) (fun xr_3 xr_4 xr_5 => (Sj184 (fadd (fadd v_0 (fmul q_0 (fmul xr (some 4611686018427387904)))) xr_3) (fadd (fadd v_1 (fmul q_0 (fmul xr_1 (some 4611686018427387904)))) xr_4) (fadd (fadd v_2 (fmul q_0 (fmul xr_2 (some 4611686018427387904)))) xr_5) (fun xr_6 xr_7 xr_8 nr => (k0 xr_6 xr_7 xr_8 nr)))))))))) (k0 (some 0) (some 0) (some 0) 4))))

def sj168 (N : Nat) : TSj168 := Gj168 (N + 24) (sj15 N) (sj35 N) (sj147 N) (sj184 N)

abbrev TSj90 : Type := Fl -> Fl -> Fl -> Fl -> Fl -> Fl -> Fl -> Fl -> (Bool -> Bool) -> Bool

def Gj90 (N : Nat) (Sj35 : TSj35) (qs_0 qs_1 qs_2 qs_3 qs_4 qs_5 qs_6 qs_7 : Fl) (k0 : Bool -> Bool) : Bool :=
  (Sj35 [qs_0, qs_1, qs_2, qs_3] (fun cr => (cond (!cr) (k0 false) (Sj35 [qs_4, qs_5, qs_6, qs_7] (fun cr_1 => (cond (!cr_1) (k0 false) (k0 true)))))))

def sj90 (N : Nat) : TSj90 := Gj90 (N + 24) (sj35 N)

abbrev TSj183 : Type := Fl -> Fl -> Fl -> Fl -> Fl -> Fl -> Fl -> Fl -> (Fl -> Fl -> Fl -> Fl -> Bool) -> Bool

def Gj183 (N : Nat) (a_0 a_1 a_2 a_3 b_0 b_1 b_2 b_3 : Fl) (k0 : Fl -> Fl -> Fl -> Fl -> Bool) : Bool :=
  (k0 (fsub (fsub (fsub (fmul a_0 b_0) (fmul a_1 b_1)) (fmul a_2 b_2)) (fmul a_3 b_3)) (fsub (fadd (fadd (fmul a_0 b_1) (fmul a_1 b_0)) (fmul a_2 b_3)) (fmul a_3 b_2)) (fadd (fadd (fsub (fmul a_0 b_2) (fmul a_1 b_3)) (fmul a_2 b_0)) (fmul a_3 b_1)) (fadd (fsub (fadd (fmul a_0 b_3) (fmul a_1 b_2)) (fmul a_2 b_1)) (fmul a_3 b_0)))

def sj183 (N : Nat) : TSj183 := Gj183 N

abbrev TSj165 : Type := Fl -> Fl -> Fl -> Fl -> (Fl -> Fl -> Fl -> Fl -> Int -> Bool) -> Bool

def Gj165 (N : Nat) (Sj15 : TSj15) (q_0 q_1 q_2 q_3 : Fl) (k0 : Fl -> Fl -> Fl -> Fl -> Int -> Bool) : Bool :=
  (Sj15 q_0 q_1 q_2 q_3 (fun cr => (cond (!cr) (k0 (some 0) (some 0) (some 0) (some 0) 5) (k0 q_0 q_1 q_2 q_3 0))))

def sj165 (N : Nat) : TSj165 := Gj165 N (sj15 N)

abbrev TSj111 : Type := Fl -> Fl -> Fl -> Fl -> Fl -> Fl -> Fl -> Fl -> (Fl -> Fl -> Fl -> Fl -> Int -> Bool) -> Bool

def Gj111 (N : Nat) (Sj90 : TSj90) (Sj183 : TSj183) (Sj165 : TSj165) (a_0 a_1 a_2 a_3 b_0 b_1 b_2 b_3 : Fl) (k0 : Fl -> Fl -> Fl -> Fl -> Int -> Bool) : Bool :=
  (Sj90 a_0 a_1 a_2 a_3 b_0 b_1 b_2 b_3 (fun cr => (cond (!cr) (k0 (some 0) (some 0) (some 0) (some 0) 4) (Sj183 a_0 a_1 a_2 a_3 b_0 b_1 b_2 b_3 (fun xr xr_1 xr_2 xr_3 => (Sj165 xr xr_1 xr_2 xr_3 (fun xr_4 xr_5 xr_6 xr_7 nr => (k0 xr_4 xr_5 xr_6 xr_7 nr))))))))

def sj111 (N : Nat) : TSj111 := Gj111 N (sj90 N) (sj183 N) (sj165 N)

abbrev TSj91 : Type := (Fl -> Fl -> Fl -> Fl -> Bool) -> Bool

def Gj91 (N : Nat) (k0 : Fl -> Fl -> Fl -> Fl -> Bool) : Bool :=
  (k0 (some 4611686018427387904) (some 0) (some 0) (some 0))

def sj91 (N : Nat) : TSj91 := Gj91 N

abbrev TSj55 : Type := (Bool -> Bool) -> Bool

def Gj55 (N : Nat) (Sj89 : TSj89) (Sj168 : TSj168) (Sj111 : TSj111) (Sj98 : TSj98) (Sj91 : TSj91) (k0 : Bool -> Bool) : Bool :=
  (Sj89 (some 0) (some 4613937818241073152) (some 4616189618054758400) (some 0) (fun xr xr_1 xr_2 xr_3 nr => (Sj168 (some 4602678819172646912) (some 4602678819172646912) (some 4602678819172646912) (some 4602678819172646912) (some 4607182418800017408) (some 4611686018427387904) (some 4613937818241073152) (fun xr_4 xr_5 xr_6 nr_1 => (Sj111 (some 0) (some 4607182418800017408) (some 0) (some 0) (some 0) (some 0) (some 4607182418800017408) (some 0) (fun xr_7 xr_8 xr_9 xr_10 nr_2 => (cond ((nr == 0) == true) (cond ((feq xr_1 (some 4603579539098121011)) == true) (cond ((feq xr_2 (some 4605380978949069210)) == true) (cond ((nr_1 == 0) == true) (cond ((feq xr_4 (some 4613937818241073152)) == true) (cond ((feq xr_5 (some 4607182418800017408)) == true) (cond ((feq xr_6 (some 4611686018427387904)) == true) (cond ((nr_2 == 0) == true) (cond ((feq xr_10 (some 4607182418800017408)) == true) (cond ((feq xr_7 (some 0)) == true) (Sj98 (some 4602678819172646912) (some 4602678819172646912) (some 4602678819172646912) (some 4602678819172646912) (fun cr => (cond (cr == true) (Sj91 (fun xr_11 xr_12 xr_13 xr_14 => (Sj98 xr_11 xr_12 xr_13 xr_14 (fun cr_1 => (k0 (!cr_1)))))) (k0 false)))) (k0 false)) (k0 false)) (k0 false)) (k0 false)) (k0 false)) (k0 false)) (k0 false)) (k0 false)) (k0 false)) (k0 false))))))))

def sj55 (N : Nat) : TSj55 := Gj55 N (sj89 N) (sj168 N) (sj111 N) (sj98 N) (sj91 N)

abbrev TSj139 : Type := Fl -> Fl -> Fl -> Fl -> (Fl -> Fl -> Fl -> Fl -> Int -> Bool) -> Bool

def Gj139 (N : Nat) (Sj15 : TSj15) (q_0 q_1 q_2 q_3 : Fl) (k0 : Fl -> Fl -> Fl -> Fl -> Int -> Bool) : Bool :=
  (Sj15 q_0 q_1 q_2 q_3 (fun cr => (cond (!cr) (k0 (some 0) (some 0) (some 0) (some 0) 4) (k0 q_0 (fneg q_1) (fneg q_2) (fneg q_3) 0))))

def sj139 (N : Nat) : TSj139 := Gj139 N (sj15 N)

abbrev TSj161 : Type := Fl -> Fl -> Fl -> Fl -> (Fl -> Fl -> Fl -> Fl -> Int -> Bool) -> Bool

def Gj161 (N : Nat) (Sj44 : TSj44) (Sj64 : TSj64) (q_0 q_1 q_2 q_3 : Fl) (k0 : Fl -> Fl -> Fl -> Fl -> Int -> Bool) : Bool :=
  (Sj44 q_0 q_1 q_2 q_3 (fun cr => (Sj64 cr (fun nr => (cond (nr != 0) (k0 (some 0) (some 0) (some 0) (some 0) nr) (k0 q_0 (fneg q_1) (fneg q_2) (fneg q_3) 0))))))

def sj161 (N : Nat) : TSj161 := Gj161 N (sj44 N) (sj64 N)

abbrev TSj71 : Type := Bool -> Bool -> (Int -> Bool) -> Bool

def Gj71 (N : Nat) (ok_0 ok_1 : Bool) (k0 : Int -> Bool) : Bool :=
  (cond (!ok_0) (k0 4) (cond (!ok_1) (k0 4) (k0 0)))

def sj71 (N : Nat) : TSj71 := Gj71 (N + 24)

abbrev TSj134 : Type := Fl -> Fl -> Fl -> Fl -> Fl -> Fl -> Fl -> Fl -> (Fl -> Fl -> Fl -> Fl -> Bool) -> Bool

def Gj134 (N : Nat) (a_0 a_1 a_2 a_3 b_0 b_1 b_2 b_3 : Fl) (k0 : Fl -> Fl -> Fl -> Fl -> Bool) : Bool :=
  (k0 (fsub (fsub (fsub (fmul a_0 b_0) (fmul a_1 b_1)) (fmul a_2 b_2)) (fmul a_3 b_3)) (fsub (fadd (fadd (fmul a_0 b_1) (fmul a_1 b_0)) (fmul a_2 b_3)) (fmul a_3 b_2)) (fadd (fadd (fsub (fmul a_0 b_2) (fmul a_1 b_3)) (fmul a_2 b_0)) (fmul a_3 b_1)) (fadd (fsub (fadd (fmul a_0 b_3) (fmul a_1 b_2)) (fmul a_2 b_1)) (fmul a_3 b_0)))

def sj134 (N : Nat) : TSj134 := Gj134 N

abbrev TSj185 : Type := Fl -> Fl -> Fl -> Fl -> (Fl -> Fl -> Fl -> Fl -> Int -> Bool) -> Bool

def Gj185 (N : Nat) (Sj44 : TSj44) (q_0 q_1 q_2 q_3 : Fl) (k0 : Fl -> Fl -> Fl -> Fl -> Int -> Bool) : Bool :=
  (Sj44 q_0 q_1 q_2 q_3 (fun cr => (cond (!cr) (k0 (some 0) (some 0) (some 0) (some 0) 5) (k0 q_0 q_1 q_2 q_3 0))))

def sj185 (N : Nat) : TSj185 := Gj185 N (sj44 N)

abbrev TSj157 : Type := Fl -> Fl -> Fl -> Fl -> Fl -> Fl -> Fl -> Fl -> (Fl -> Fl -> Fl -> Fl -> Int -> Bool) -> Bool

def Gj157 (N : Nat) (Sj44 : TSj44) (Sj71 : TSj71) (Sj134 : TSj134) (Sj185 : TSj185) (a_0 a_1 a_2 a_3 b_0 b_1 b_2 b_3 : Fl) (k0 : Fl -> Fl -> Fl -> Fl -> Int -> Bool) : Bool :=
  (Sj44 a_0 a_1 a_2 a_3 (fun cr => (Sj44 b_0 b_1 b_2 b_3 (fun cr_1 => (Sj71 cr cr_1 (fun nr => (cond (nr != 0) (k0 (some 0) (some 0) (some 0) (some 0) nr) (Sj134 a_0 a_1 a_2 a_3 b_0 b_1 b_2 b_3 (fun xr xr_1 xr_2 xr_3 => (Sj185 xr xr_1 xr_2 xr_3 (fun xr_4 xr_5 xr_6 xr_7 nr_1 => (k0 xr_4 xr_5 xr_6 xr_7 nr_1))))))))))))

def sj157 (N : Nat) : TSj157 := Gj157 N (sj44 N) (sj71 N) (sj134 N) (sj185 N)

abbrev TSj140 : Type := Fl -> Fl -> Fl -> Fl -> Fl -> Fl -> Fl -> Fl -> (Fl -> Fl -> Fl -> Fl -> Int -> Bool) -> Bool

def Gj140 (N : Nat) (Sj111 : TSj111) (Sj89 : TSj89) (a_0 a_1 a_2 a_3 b_0 b_1 b_2 b_3 : Fl) (k0 : Fl -> Fl -> Fl -> Fl -> Int -> Bool) : Bool :=
  (Sj111 a_0 a_1 a_2 a_3 b_0 b_1 b_2 b_3 (fun xr xr_1 xr_2 xr_3 nr => (cond (nr != 0) (k0 (some 0) (some 0) (some 0) (some 0) nr) (Sj89 xr xr_1 xr_2 xr_3 (fun xr_4 xr_5 xr_6 xr_7 nr_1 => (k0 xr_4 xr_5 xr_6 xr_7 nr_1))))))

def sj140 (N : Nat) : TSj140 := Gj140 N (sj111 N) (sj89 N)

abbrev TSj162 : Type := Fl -> Fl -> Fl -> Fl -> Fl -> Fl -> Fl -> Fl -> (Fl -> Fl -> Fl -> Fl -> Int -> Bool) -> Bool

def Gj162 (N : Nat) (Sj157 : TSj157) (Sj129 : TSj129) (a_0 a_1 a_2 a_3 b_0 b_1 b_2 b_3 : Fl) (k0 : Fl -> Fl -> Fl -> Fl -> Int -> Bool) : Bool :=
  (Sj157 a_0 a_1 a_2 a_3 b_0 b_1 b_2 b_3 (fun xr xr_1 xr_2 xr_3 nr => (cond (nr != 0) (k0 (some 0) (some 0) (some 0) (some 0) nr) (Sj129 xr xr_1 xr_2 xr_3 (fun xr_4 xr_5 xr_6 xr_7 nr_1 => (k0 xr_4 xr_5 xr_6 xr_7 nr_1))))))

def sj162 (N : Nat) : TSj162 := Gj162 N (sj157 N) (sj129 N)

abbrev TSj160 : Type := Fl -> Fl -> Fl -> Fl -> Fl -> Fl -> Fl -> Fl -> (Fl -> Int -> Bool) -> Bool

def Gj160 (N : Nat) (Sj90 : TSj90) (Sj35 : TSj35) (a_0 a_1 a_2 a_3 b_0 b_1 b_2 b_3 : Fl) (k0 : Fl -> Int -> Bool) : Bool :=
  (Sj90 a_0 a_1 a_2 a_3 b_0 b_1 b_2 b_3 (fun cr => (cond (!cr) (k0 (some 0) 4) (Sj35 [(fadd (fadd (fadd (fmul a_0 b_0) (fmul a_1 b_1)) (fmul a_2 b_2)) (fmul a_3 b_3))] (fun cr_1 => (cond (!cr_1) (k0 (some 0) 5) (k0 (fadd (fadd (fadd (fmul a_0 b_0) (fmul a_1 b_1)) (fmul a_2 b_2)) (fmul a_3 b_3)) 0)))))))

def sj160 (N : Nat) : TSj160 := Gj160 N (sj90 N) (sj35 N)

abbrev TSj186 : Type := Fl -> Fl -> Fl -> Fl -> Fl -> Fl -> Fl -> Fl -> (Fl -> Int -> Bool) -> Bool

def Gj186 (N : Nat) (Sj44 : TSj44) (Sj71 : TSj71) (Sj87 : TSj87) (a_0 a_1 a_2 a_3 b_0 b_1 b_2 b_3 : Fl) (k0 : Fl -> Int -> Bool) : Bool :=
  (Sj44 a_0 a_1 a_2 a_3 (fun cr => (Sj44 b_0 b_1 b_2 b_3 (fun cr_1 => (Sj71 cr cr_1 (fun nr => (cond (nr != 0) (k0 (some 0) nr) (Sj87 (fadd (fadd (fadd (fmul a_0 b_0) (fmul a_1 b_1)) (fmul a_2 b_2)) (fmul a_3 b_3)) (fun cr_2 => (cond (!cr_2) (k0 (some 0) 5) (k0 (fadd (fadd (fadd (fmul a_0 b_0) (fmul a_1 b_1)) (fmul a_2 b_2)) (fmul a_3 b_3)) 0)))))))))))

def sj186 (N : Nat) : TSj186 := Gj186 N (sj44 N) (sj71 N) (sj87 N)

abbrev TSj69 : Type := Int -> Int -> Int -> Int -> Int -> Int -> Int -> Int -> (Bool -> Bool) -> Bool

def Gj69 (N : Nat) (Sj50 : TSj50) (Sj89 : TSj89) (Sj129 : TSj129) (Sj52 : TSj52) (Sj98 : TSj98) (Sj158 : TSj158) (Sj55 : TSj55) (Sj139 : TSj139) (Sj161 : TSj161) (Sj111 : TSj111) (Sj157 : TSj157) (Sj140 : TSj140) (Sj162 : TSj162) (Sj160 : TSj160) (Sj186 : TSj186) (Sj28 : TSj28) (x_0 x_1 x_2 x_3 y_0 y_1 y_2 y_3 : Int) (k0 : Bool -> Bool) : Bool :=
  (Sj50 x_0 x_1 x_2 x_3 (fun xr xr_1 xr_2 xr_3 => (Sj50 y_0 y_1 y_2 y_3 (fun xr_4 xr_5 xr_6 xr_7 => (Sj89 xr xr_1 xr_2 xr_3 (fun xr_8 xr_9 xr_10 xr_11 nr => (Sj129 xr xr_1 xr_2 xr_3 (fun xr_12 xr_13 xr_14 xr_15 nr_1 => (Sj52 xr_8 xr_9 xr_10 xr_11 nr xr_12 xr_13 xr_14 xr_15 nr_1 (fun cr => (cond ((!cr) == false) (Sj98 xr xr_1 xr_2 xr_3 (fun cr_1 => (Sj158 xr xr_1 xr_2 xr_3 (fun cr_2 => (cond ((cr_1 != cr_2) == false) (Sj55 (fun cr_3 => (cond (!cr_3) (k0 false) (Sj139 xr xr_1 xr_2 xr_3 (fun xr_16 xr_17 xr_18 xr_19 nr_2 => (Sj161 xr xr_1 xr_2 xr_3 (fun xr_20 xr_21 xr_22 xr_23 nr_3 => (Sj52 xr_16 xr_17 xr_18 xr_19 nr_2 xr_20 xr_21 xr_22 xr_23 nr_3 (fun cr_4 => (cond (!cr_4) (k0 false) (Sj111 xr xr_1 xr_2 xr_3 xr_4 xr_5 xr_6 xr_7 (fun xr_24 xr_25 xr_26 xr_27 nr_4 => (Sj157 xr xr_1 xr_2 xr_3 xr_4 xr_5 xr_6 xr_7 (fun xr_28 xr_29 xr_30 xr_31 nr_5 => (Sj52 xr_24 xr_25 xr_26 xr_27 nr_4 xr_28 xr_29 xr_30 xr_31 nr_5 (fun cr_5 => (cond (!cr_5) (k0 false) (Sj140 xr xr_1 xr_2 xr_3 xr_4 xr_5 xr_6 xr_7 (fun xr_32 xr_33 xr_34 xr_35 nr_6 => (Sj162 xr xr_1 xr_2 xr_3 xr_4 xr_5 xr_6 xr_7 (fun xr_36 xr_37 xr_38 xr_39 nr_7 => (Sj52 xr_32 xr_33 xr_34 xr_35 nr_6 xr_36 xr_37 xr_38 xr_39 nr_7 (fun cr_6 => (cond (!cr_6) (k0 false) (Sj160 xr xr_1 xr_2 xr_3 xr_4 xr_5 xr_6 xr_7 (fun xr_40 nr_8 => (Sj186 xr xr_1 xr_2 xr_3 xr_4 xr_5 xr_6 xr_7 (fun xr_41 nr_9 => (Sj28 xr_40 xr_41 (fun cr_7 => (cond (cr_7 == true) (k0 (nr_8 == nr_9)) (k0 false)))))))))))))))))))))))))))))))) (k0 false)))))) (k0 false))))))))))))

def sj69 (N : Nat) : TSj69 := Gj69 N (sj50 N) (sj89 N) (sj129 N) (sj52 N) (sj98 N) (sj158 N) (sj55 N) (sj139 N) (sj161 N) (sj111 N) (sj157 N) (sj140 N) (sj162 N) (sj160 N) (sj186 N) (sj28 N)

end Go.Proofs.YtccocdgimamdhaaGreatDoor
