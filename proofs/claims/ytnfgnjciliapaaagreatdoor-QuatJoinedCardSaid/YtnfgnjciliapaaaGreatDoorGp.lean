/-
  THE PROGRAM's FUNCTIONS, as their meanings (written by program).
  Conditions: none.
-/
import Derived.Test.YtnfgnjciliapaaaGreatDoorMachP
namespace Go.Proofs.YtnfgnjciliapaaaGreatDoor
open Go Go.Mach
set_option linter.unusedVariables false

def strTab_11c1601c : List Int := [0, 1, 2, 2, 3, 3, 3, 3, 4, 4, 4, 4, 4, 4, 4, 4, 5, 5, 5, 5, 5, 5, 5, 5, 5, 5, 5, 5, 5, 5, 5, 5, 6, 6, 6, 6, 6, 6, 6, 6, 6, 6, 6, 6, 6, 6, 6, 6, 6, 6, 6, 6, 6, 6, 6, 6, 6, 6, 6, 6, 6, 6, 6, 6, 7, 7, 7, 7, 7, 7, 7, 7, 7, 7, 7, 7, 7, 7, 7, 7, 7, 7, 7, 7, 7, 7, 7, 7, 7, 7, 7, 7, 7, 7, 7, 7, 7, 7, 7, 7, 7, 7, 7, 7, 7, 7, 7, 7, 7, 7, 7, 7, 7, 7, 7, 7, 7, 7, 7, 7, 7, 7, 7, 7, 7, 7, 7, 7, 8, 8, 8, 8, 8, 8, 8, 8, 8, 8, 8, 8, 8, 8, 8, 8, 8, 8, 8, 8, 8, 8, 8, 8, 8, 8, 8, 8, 8, 8, 8, 8, 8, 8, 8, 8, 8, 8, 8, 8, 8, 8, 8, 8, 8, 8, 8, 8, 8, 8, 8, 8, 8, 8, 8, 8, 8, 8, 8, 8, 8, 8, 8, 8, 8, 8, 8, 8, 8, 8, 8, 8, 8, 8, 8, 8, 8, 8, 8, 8, 8, 8, 8, 8, 8, 8, 8, 8, 8, 8, 8, 8, 8, 8, 8, 8, 8, 8, 8, 8, 8, 8, 8, 8, 8, 8, 8, 8, 8, 8, 8, 8, 8, 8, 8, 8, 8, 8, 8, 8, 8, 8, 8, 8, 8, 8, 8, 8]

abbrev TSQ128 : Type := Nat -> (Int -> Bool) -> Bool

def sQ128 (N : Nat) : TSQ128 := fun n k => k n

abbrev TS_an_of : Type := (Int -> Int -> Int -> Bool) -> Bool

def G_an_of (N : Nat) (k0 : Int -> Int -> Int -> Bool) : Bool :=
  (k0 52 2047 1075)

def s_an_of (N : Nat) : TS_an_of := G_an_of N

abbrev TSQ129 : Type := Int -> Int -> Int -> (Int -> Bool) -> Bool

def GQ129 (N : Nat) (f_0 f_1 f_2 : Int) (k0 : Int -> Bool) : Bool :=
  ((fits .i64 (f_1 + 1)) && ((decide (0 <= f_0)) && (k0 (IntKind.wrap .u64 ((IntKind.wrap .u64 (f_1 + 1)) * 2 ^ (min (Int.toNat f_0) 64))))))

def sQ129 (N : Nat) : TSQ129 := GQ129 N

abbrev TSQ78 : Type := Int -> Int -> Int -> (Int -> Bool) -> Bool

def GQ78 (N : Nat) (f_0 f_1 f_2 : Int) (k0 : Int -> Bool) : Bool :=
  ((decide (0 <= f_0)) && (k0 (IntKind.wrap .u64 ((IntKind.wrap .u64 f_1) * 2 ^ (min (Int.toNat f_0) 64)))))

def sQ78 (N : Nat) : TSQ78 := GQ78 N

abbrev TSQ76 : Type := Int -> Int -> Int -> Int -> (Bool -> Bool) -> Bool

def GQ76 (N : Nat) (SQ129 : TSQ129) (SQ78 : TSQ78) (b f_0 f_1 f_2 : Int) (k0 : Bool -> Bool) : Bool :=
  (SQ129 f_0 f_1 f_2 (fun nr => (SQ78 f_0 f_1 f_2 (fun nr_1 => (k0 (decide ((bitsN .andNot .u64 b nr) > nr_1)))))))

def sQ76 (N : Nat) : TSQ76 := GQ76 N (sQ129 N) (sQ78 N)

abbrev TSQ63 : Type := Int -> Int -> Int -> (Int -> Bool) -> Bool

def GQ63 (N : Nat) (f_0 f_1 f_2 : Int) (k0 : Int -> Bool) : Bool :=
  ((decide (0 <= f_0)) && (k0 (IntKind.wrap .u64 ((1 : Int) * 2 ^ (min (Int.toNat f_0) 64)))))

def sQ63 (N : Nat) : TSQ63 := GQ63 N

abbrev TSQ143 : Type := Int -> Int -> Int -> (Int -> Bool) -> Bool

def GQ143 (N : Nat) (SQ78 : TSQ78) (SQ63 : TSQ63) (f_0 f_1 f_2 : Int) (k0 : Int -> Bool) : Bool :=
  (SQ78 f_0 f_1 f_2 (fun nr => (SQ63 f_0 f_1 f_2 (fun nr_1 => (k0 (bitsN .or .u64 (bitsN .or .u64 nr (Int.fdiv nr_1 (2 ^ 1))) (IntKind.wrap .u64 (Int.tdiv f_0 52))))))))

def sQ143 (N : Nat) : TSQ143 := GQ143 N (sQ78 N) (sQ63 N)

abbrev TSQ66 : Type := Int -> Int -> Int -> Int -> (Int -> Bool) -> Bool

def GQ66 (N : Nat) (SQ76 : TSQ76) (SQ143 : TSQ143) (b f_0 f_1 f_2 : Int) (k0 : Int -> Bool) : Bool :=
  (SQ76 b f_0 f_1 f_2 (fun cr => (cond cr (SQ143 f_0 f_1 f_2 (fun nr => (k0 nr))) (k0 b))))

def sQ66 (N : Nat) : TSQ66 := GQ66 N (sQ76 N) (sQ143 N)

abbrev TSQ25 : Type := Int -> Int -> Int -> Int -> (Bool -> Int -> Int -> Bool) -> Bool

def GQ25 (N : Nat) (SQ66 : TSQ66) (SQ129 : TSQ129) (SQ63 : TSQ63) (b f_0 f_1 f_2 : Int) (k0 : Bool -> Int -> Int -> Bool) : Bool :=
  (SQ66 b f_0 f_1 f_2 (fun nr => (SQ129 f_0 f_1 f_2 (fun nr_1 => ((decide (0 <= f_0)) && ((fits .i64 (bitsN .and .u64 (Int.fdiv nr (2 ^ (min (Int.toNat f_0) 64))) (IntKind.wrap .u64 f_1))) && (SQ63 f_0 f_1 f_2 (fun nr_2 => (k0 ((bitsN .and .u64 nr nr_1) != 0) (bitsN .and .u64 (Int.fdiv nr (2 ^ (min (Int.toNat f_0) 64))) (IntKind.wrap .u64 f_1)) (bitsN .and .u64 nr (IntKind.wrap .u64 (nr_2 - 1))))))))))))

def sQ25 (N : Nat) : TSQ25 := GQ25 N (sQ66 N) (sQ129 N) (sQ63 N)

abbrev TSQ24 : Type := Int -> Int -> Int -> Int -> (Int -> Bool) -> Bool

def GQ24 (N : Nat) (SQ25 : TSQ25) (b f_0 f_1 f_2 : Int) (k0 : Int -> Bool) : Bool :=
  (SQ25 b f_0 f_1 f_2 (fun cr nr nr_1 => (cond ((nr == f_1) == true) (cond (nr_1 != 0) (k0 1) (cond (nr == f_1) (k0 2) (cond ((nr == 0) == true) (cond (nr_1 == 0) (k0 3) (cond (nr == 0) (k0 4) (k0 5))) (cond (nr == 0) (k0 4) (k0 5))))) (cond (nr == f_1) (k0 2) (cond ((nr == 0) == true) (cond (nr_1 == 0) (k0 3) (cond (nr == 0) (k0 4) (k0 5))) (cond (nr == 0) (k0 4) (k0 5)))))))

def sQ24 (N : Nat) : TSQ24 := GQ24 N (sQ25 N)

abbrev TSQ136 : Type := Nat -> (Int -> Bool) -> Bool

def GQ136 (N : Nat) (SQ128 : TSQ128) (S_an_of : TS_an_of) (SQ24 : TSQ24) (x : Nat) (k0 : Int -> Bool) : Bool :=
  (SQ128 x (fun nr => (S_an_of (fun nr_1 nr_2 nr_3 => (SQ24 nr nr_1 nr_2 nr_3 (fun nr_4 => (k0 nr_4)))))))

def sQ136 (N : Nat) : TSQ136 := GQ136 N (sQ128 N) (s_an_of N) (sQ24 N)

abbrev TSQ79 : Type := Int -> (Fl -> Bool) -> Bool

def sQ79 (N : Nat) : TSQ79 := fun n k => k (canon n.toNat)

abbrev TSQ149 : Type := Nat -> (Fl -> Bool) -> Bool

def GQ149 (N : Nat) (SQ128 : TSQ128) (SQ79 : TSQ79) (x : Nat) (k0 : Fl -> Bool) : Bool :=
  (SQ128 x (fun nr => (SQ79 (bitsN .andNot .u64 nr 9223372036854775808) (fun xr => (k0 xr)))))

def sQ149 (N : Nat) : TSQ149 := GQ149 N (sQ128 N) (sQ79 N)

abbrev TSQ29 : Type := List Fl -> (Bool -> Bool) -> Bool

def st_quat_finite_0 (N : Nat) (l_1 : List Fl) (t5 : Int) (e0 : Bool -> Bool) (e1 : Bool) : (Int) -> ((Int) -> Bool) -> Bool := fun v_ K => match v_ with
  | t6 => (cond (decide (t6 < t5)) ((inR t6 (List.length l_1)) && ((inR t6 (List.length l_1)) && (cond (!feq (fsub (List.getD l_1 (Int.toNat t6) none) (List.getD l_1 (Int.toNat t6) none)) (some 0)) (e0 false) ((fits .i64 (t6 + 1)) && (K (t6 + 1)))))) e1)

def GQ29 (N : Nat) (l : List Fl) (k0 : Bool -> Bool) : Bool :=
  (iterG N (st_quat_finite_0 N l (((List.length l) : Nat) : Int) (fun t2 => (k0 t2)) (k0 true)) 0)

def sQ29 (N : Nat) : TSQ29 := GQ29 N

abbrev TSQ7 : Type := Fl -> Fl -> Fl -> Fl -> (Bool -> Bool) -> Bool

def GQ7 (N : Nat) (SQ29 : TSQ29) (qs_0 qs_1 qs_2 qs_3 : Fl) (k0 : Bool -> Bool) : Bool :=
  (SQ29 [qs_0, qs_1, qs_2, qs_3] (fun cr => (cond (!cr) (k0 false) (k0 true))))

def sQ7 (N : Nat) : TSQ7 := GQ7 (N + 24) (sQ29 N)

abbrev TSQ53 : Type := Fl -> Fl -> Fl -> Fl -> (Bool) -> Bool

def GQ53 (N : Nat) (q_0 q_1 q_2 q_3 : Fl) (k0 : Bool) : Bool :=
  k0

def sQ53 (N : Nat) : TSQ53 := GQ53 N

abbrev TS_m_Abs : Type := Fl -> (Fl -> Bool) -> Bool

def s_m_Abs (N : Nat) : TS_m_Abs := fun x k => k (absF x)

abbrev TSQ108 : Type := Fl -> Int -> (Bool -> Bool) -> Bool

def GQ108 (N : Nat) (S_m_Abs : TS_m_Abs) (f : Fl) (sign : Int) (k0 : Bool -> Bool) : Bool :=
  (cond (sign == 0) (S_m_Abs f (fun xr => (k0 (fgt xr (some 9218868437227405311))))) (cond (decide (sign < 0)) (k0 (fgt (fneg f) (some 9218868437227405311))) (k0 (fgt f (some 9218868437227405311)))))

def sQ108 (N : Nat) : TSQ108 := GQ108 N (s_m_Abs N)

abbrev TSQ114 : Type := Fl -> (Bool -> Bool) -> Bool

def GQ114 (N : Nat) (f : Fl) (k0 : Bool -> Bool) : Bool :=
  (k0 (!feq f f))

def sQ114 (N : Nat) : TSQ114 := GQ114 N

abbrev TSQ59 : Type := Fl -> (Fl -> Int -> Bool) -> Bool

def GQ59 (N : Nat) (S_m_Abs : TS_m_Abs) (x : Fl) (k0 : Fl -> Int -> Bool) : Bool :=
  (S_m_Abs x (fun xr => (cond (flt xr (some 4503599627370496)) (k0 (fmul x (some 4841369599423283200)) (-52)) (k0 x 0))))

def sQ59 (N : Nat) : TSQ59 := GQ59 N (s_m_Abs N)

abbrev TSQ102 : Type := Fl -> (Int -> Bool) -> Bool

def sQ102 (N : Nat) : TSQ102 := fun x k => match x with | some b => k b | none => false

abbrev TSQ145 : Type := Fl -> (Fl -> Int -> Bool) -> Bool

def GQ145 (N : Nat) (SQ108 : TSQ108) (SQ114 : TSQ114) (SQ59 : TSQ59) (SQ102 : TSQ102) (SQ79 : TSQ79) (f : Fl) (k0 : Fl -> Int -> Bool) : Bool :=
  (cond (feq f (some 0)) (k0 f 0) (SQ108 f 0 (fun cr => (cond (cr == false) (SQ114 f (fun cr_1 => (cond cr_1 (k0 f 0) (SQ59 f (fun xr nr => (SQ102 xr (fun nr_1 => ((fits .i64 (bitsN .and .u64 (Int.fdiv nr_1 (2 ^ 52)) 2047)) && ((fits .i64 ((bitsN .and .u64 (Int.fdiv nr_1 (2 ^ 52)) 2047) - 1023)) && ((fits .i64 (((bitsN .and .u64 (Int.fdiv nr_1 (2 ^ 52)) 2047) - 1023) + 1)) && ((fits .i64 (nr + (((bitsN .and .u64 (Int.fdiv nr_1 (2 ^ 52)) 2047) - 1023) + 1))) && (SQ79 (bitsN .or .u64 (bitsN .andNot .u64 nr_1 9218868437227405312) 4602678819172646912) (fun xr_1 => (k0 xr_1 (nr + (((bitsN .and .u64 (Int.fdiv nr_1 (2 ^ 52)) 2047) - 1023) + 1)))))))))))))))) (k0 f 0)))))

def sQ145 (N : Nat) : TSQ145 := GQ145 N (sQ108 N) (sQ114 N) (sQ59 N) (sQ102 N) (sQ79 N)

abbrev TSQ138 : Type := Fl -> (Fl -> Int -> Bool) -> Bool

def GQ138 (N : Nat) (SQ145 : TSQ145) (f : Fl) (k0 : Fl -> Int -> Bool) : Bool :=
  (SQ145 f (fun xr nr => (k0 xr nr)))

def sQ138 (N : Nat) : TSQ138 := GQ138 N (sQ145 N)

abbrev TSQ87 : Type := Fl -> Fl -> (Fl -> Bool) -> Bool

def GQ87 (N : Nat) (SQ102 : TSQ102) (SQ79 : TSQ79) (f sign : Fl) (k0 : Fl -> Bool) : Bool :=
  (SQ102 f (fun nr => (SQ102 sign (fun nr_1 => (SQ79 (bitsN .or .u64 (bitsN .andNot .u64 nr 9223372036854775808) (bitsN .and .u64 nr_1 9223372036854775808)) (fun xr => (k0 xr)))))))

def sQ87 (N : Nat) : TSQ87 := GQ87 N (sQ102 N) (sQ79 N)

abbrev TS_m_Inf : Type := Int -> (Fl -> Bool) -> Bool

def J_m_Inf_0 (N : Nat) (SQ79 : TSQ79) (sign v : Int) (k0 : Fl -> Bool) : Bool :=
  (SQ79 v (fun xr => (k0 xr)))

def G_m_Inf (N : Nat) (SQ79 : TSQ79) (sign : Int) (k0 : Fl -> Bool) : Bool :=
  (cond (decide (sign >= 0)) (J_m_Inf_0 N SQ79 sign 9218868437227405312 k0) (J_m_Inf_0 N SQ79 sign 18442240474082181120 k0))

def s_m_Inf (N : Nat) : TS_m_Inf := G_m_Inf N (sQ79 N)

abbrev TSQ140 : Type := Fl -> Int -> (Fl -> Bool) -> Bool

def JQ165 (N : Nat) (SQ108 : TSQ108) (SQ114 : TSQ114) (SQ59 : TSQ59) (SQ102 : TSQ102) (SQ87 : TSQ87) (S_m_Inf : TS_m_Inf) (SQ79 : TSQ79) (frac : Fl) (exp exp_1 x : Int) (m : Fl) (k0 : Fl -> Bool) : Bool :=
  ((fits .i64 (exp_1 + 1023)) && (SQ79 (bitsN .or .u64 (bitsN .andNot .u64 x 9218868437227405312) (IntKind.wrap .u64 ((IntKind.wrap .u64 (exp_1 + 1023)) * 2 ^ 52))) (fun xr_4 => (k0 (fmul m xr_4)))))

def GQ140 (N : Nat) (SQ108 : TSQ108) (SQ114 : TSQ114) (SQ59 : TSQ59) (SQ102 : TSQ102) (SQ87 : TSQ87) (S_m_Inf : TS_m_Inf) (SQ79 : TSQ79) (frac : Fl) (exp : Int) (k0 : Fl -> Bool) : Bool :=
  (cond (feq frac (some 0)) (k0 frac) (SQ108 frac 0 (fun cr => (cond (cr == false) (SQ114 frac (fun cr_1 => (cond cr_1 (k0 frac) (SQ59 frac (fun xr nr => ((fits .i64 (exp + nr)) && (SQ102 xr (fun nr_1 => ((fits .i64 (Int.fdiv nr_1 (2 ^ 52))) && ((fits .i64 ((bitsN .and .i64 (Int.fdiv nr_1 (2 ^ 52)) 2047) - 1023)) && ((fits .i64 ((exp + nr) + ((bitsN .and .i64 (Int.fdiv nr_1 (2 ^ 52)) 2047) - 1023))) && (cond (decide (((exp + nr) + ((bitsN .and .i64 (Int.fdiv nr_1 (2 ^ 52)) 2047) - 1023)) < (-1075))) (SQ87 (some 0) xr (fun xr_1 => (k0 xr_1))) (cond (decide (((exp + nr) + ((bitsN .and .i64 (Int.fdiv nr_1 (2 ^ 52)) 2047) - 1023)) > 1023)) (cond (flt xr (some 0)) (S_m_Inf (-1) (fun xr_2 => (k0 xr_2))) (S_m_Inf 1 (fun xr_3 => (k0 xr_3)))) (cond (decide (((exp + nr) + ((bitsN .and .i64 (Int.fdiv nr_1 (2 ^ 52)) 2047) - 1023)) < (-1022))) ((fits .i64 (((exp + nr) + ((bitsN .and .i64 (Int.fdiv nr_1 (2 ^ 52)) 2047) - 1023)) + 53)) && (JQ165 N SQ108 SQ114 SQ59 SQ102 SQ87 S_m_Inf SQ79 frac exp (((exp + nr) + ((bitsN .and .i64 (Int.fdiv nr_1 (2 ^ 52)) 2047) - 1023)) + 53) nr_1 (some 4368491638549381120) k0)) (JQ165 N SQ108 SQ114 SQ59 SQ102 SQ87 S_m_Inf SQ79 frac exp ((exp + nr) + ((bitsN .and .i64 (Int.fdiv nr_1 (2 ^ 52)) 2047) - 1023)) nr_1 (some 4607182418800017408) k0))))))))))))))) (k0 frac)))))

def sQ140 (N : Nat) : TSQ140 := GQ140 N (sQ108 N) (sQ114 N) (sQ59 N) (sQ102 N) (sQ87 N) (s_m_Inf N) (sQ79 N)

abbrev TSQ109 : Type := Fl -> Int -> (Fl -> Bool) -> Bool

def GQ109 (N : Nat) (SQ140 : TSQ140) (frac : Fl) (exp : Int) (k0 : Fl -> Bool) : Bool :=
  (SQ140 frac exp (fun xr => (k0 xr)))

def sQ109 (N : Nat) : TSQ109 := GQ109 N (sQ140 N)

abbrev TSQ155 : Type := Fl -> (Fl -> Bool) -> Bool

def sQ155 (N : Nat) : TSQ155 := fun x k => k (fsqrt x)

abbrev TSQ148 : Type := Fl -> (Fl -> Bool) -> Bool

def GQ148 (N : Nat) (SQ155 : TSQ155) (x : Fl) (k0 : Fl -> Bool) : Bool :=
  (SQ155 x (fun xr => (k0 xr)))

def sQ148 (N : Nat) : TSQ148 := GQ148 N (sQ155 N)

abbrev TSQ124 : Type := Fl -> Fl -> Fl -> Fl -> (Bool) -> Bool

def GQ124 (N : Nat) (l_0 l_1 l_2 l_3 : Fl) (k0 : Bool) : Bool :=
  k0

def sQ124 (N : Nat) : TSQ124 := GQ124 N

abbrev TSQ85 : Type := Fl -> Fl -> Fl -> Fl -> (Fl -> Fl -> Fl -> Fl -> Int -> Bool) -> Bool

def GQ85 (N : Nat) (SQ7 : TSQ7) (SQ53 : TSQ53) (S_m_Abs : TS_m_Abs) (SQ138 : TSQ138) (SQ109 : TSQ109) (SQ148 : TSQ148) (SQ124 : TSQ124) (q_0 q_1 q_2 q_3 : Fl) (k0 : Fl -> Fl -> Fl -> Fl -> Int -> Bool) : Bool :=
  (SQ7 q_0 q_1 q_2 q_3 (fun cr => (cond (!cr) (k0 (some 0) (some 0) (some 0) (some 0) 4) (SQ53 q_0 q_1 q_2 q_3 (S_m_Abs q_0 (fun xr => (S_m_Abs q_1 (fun xr_1 => (S_m_Abs q_2 (fun xr_2 => (S_m_Abs q_3 (fun xr_3 => (cond (feq (fmm true (fmm true (fmm true (fmm true (some 0) xr) xr_1) xr_2) xr_3) (some 0)) (k0 (some 0) (some 0) (some 0) (some 0) 120) (SQ138 (fmm true (fmm true (fmm true (fmm true (some 0) xr) xr_1) xr_2) xr_3) (fun xr_4 nr => ((fits .i64 (1 - nr)) && (SQ109 q_0 (1 - nr) (fun xr_5 => ((fits .i64 (1 - nr)) && (SQ109 q_1 (1 - nr) (fun xr_6 => ((fits .i64 (1 - nr)) && (SQ109 q_2 (1 - nr) (fun xr_7 => ((fits .i64 (1 - nr)) && (SQ109 q_3 (1 - nr) (fun xr_8 => (SQ148 (fadd (fadd (fadd (fadd (some 0) (fmul xr_5 xr_5)) (fmul xr_6 xr_6)) (fmul xr_7 xr_7)) (fmul xr_8 xr_8)) (fun xr_9 => (SQ124 (fdiv xr_5 xr_9) (fdiv xr_6 xr_9) (fdiv xr_7 xr_9) (fdiv xr_8 xr_9) (k0 (fdiv xr_5 xr_9) (fdiv xr_6 xr_9) (fdiv xr_7 xr_9) (fdiv xr_8 xr_9) 0)))))))))))))))))))))))))))))))

def sQ85 (N : Nat) : TSQ85 := GQ85 (N + 24) (sQ7 N) (sQ53 N) (s_m_Abs N) (sQ138 N) (sQ109 N) (sQ148 N) (sQ124 N)

abbrev TSQ115 : Type := Fl -> Fl -> Fl -> Fl -> Fl -> Fl -> (Fl -> Fl -> Fl -> Bool) -> Bool

def GQ115 (N : Nat) (a_0 a_1 a_2 b_0 b_1 b_2 : Fl) (k0 : Fl -> Fl -> Fl -> Bool) : Bool :=
  (k0 (fsub (fmul a_1 b_2) (fmul a_2 b_1)) (fsub (fmul a_2 b_0) (fmul a_0 b_2)) (fsub (fmul a_0 b_1) (fmul a_1 b_0)))

def sQ115 (N : Nat) : TSQ115 := GQ115 N

abbrev TSQ133 : Type := Fl -> Fl -> Fl -> (Fl -> Fl -> Fl -> Int -> Bool) -> Bool

def GQ133 (N : Nat) (SQ29 : TSQ29) (v_0 v_1 v_2 : Fl) (k0 : Fl -> Fl -> Fl -> Int -> Bool) : Bool :=
  (SQ29 [v_0, v_1, v_2] (fun cr => (cond (!cr) (k0 (some 0) (some 0) (some 0) 5) (k0 v_0 v_1 v_2 0))))

def sQ133 (N : Nat) : TSQ133 := GQ133 N (sQ29 N)

abbrev TSQ77 : Type := Fl -> Fl -> Fl -> Fl -> Fl -> Fl -> Fl -> (Fl -> Fl -> Fl -> Int -> Bool) -> Bool

def GQ77 (N : Nat) (SQ7 : TSQ7) (SQ29 : TSQ29) (SQ115 : TSQ115) (SQ133 : TSQ133) (q_0 q_1 q_2 q_3 v_0 v_1 v_2 : Fl) (k0 : Fl -> Fl -> Fl -> Int -> Bool) : Bool :=
  (SQ7 q_0 q_1 q_2 q_3 (fun cr => (cond ((!cr) == false) (SQ29 [v_0, v_1, v_2] (fun cr_1 => (cond (!cr_1) (k0 (some 0) (some 0) (some 0) 4) (SQ115 q_1 q_2 q_3 v_0 v_1 v_2 (fun xr xr_1 xr_2 => (SQ115 q_1 q_2 q_3 (fmul xr (some 4611686018427387904)) (fmul xr_1 (some 4611686018427387904)) (fmul xr_2 (some 4611686018427387904)) (fun xr_3 xr_4 xr_5 => (SQ133 (fadd (fadd v_0 (fmul q_0 (fmul xr (some 4611686018427387904)))) xr_3) (fadd (fadd v_1 (fmul q_0 (fmul xr_1 (some 4611686018427387904)))) xr_4) (fadd (fadd v_2 (fmul q_0 (fmul xr_2 (some 4611686018427387904)))) xr_5) (fun xr_6 xr_7 xr_8 nr => (k0 xr_6 xr_7 xr_8 nr)))))))))) (k0 (some 0) (some 0) (some 0) 4))))

def sQ77 (N : Nat) : TSQ77 := GQ77 (N + 24) (sQ7 N) (sQ29 N) (sQ115 N) (sQ133 N)

abbrev TSQ90 : Type := Fl -> Fl -> Fl -> Fl -> Fl -> Fl -> Fl -> Fl -> (Bool -> Bool) -> Bool

def GQ90 (N : Nat) (SQ29 : TSQ29) (qs_0 qs_1 qs_2 qs_3 qs_4 qs_5 qs_6 qs_7 : Fl) (k0 : Bool -> Bool) : Bool :=
  (SQ29 [qs_0, qs_1, qs_2, qs_3] (fun cr => (cond (!cr) (k0 false) (SQ29 [qs_4, qs_5, qs_6, qs_7] (fun cr_1 => (cond (!cr_1) (k0 false) (k0 true)))))))

def sQ90 (N : Nat) : TSQ90 := GQ90 (N + 24) (sQ29 N)

abbrev TSQ137 : Type := Fl -> Fl -> Fl -> Fl -> Fl -> Fl -> Fl -> Fl -> (Fl -> Fl -> Fl -> Fl -> Bool) -> Bool

def GQ137 (N : Nat) (a_0 a_1 a_2 a_3 b_0 b_1 b_2 b_3 : Fl) (k0 : Fl -> Fl -> Fl -> Fl -> Bool) : Bool :=
  (k0 (fsub (fsub (fsub (fmul a_0 b_0) (fmul a_1 b_1)) (fmul a_2 b_2)) (fmul a_3 b_3)) (fsub (fadd (fadd (fmul a_0 b_1) (fmul a_1 b_0)) (fmul a_2 b_3)) (fmul a_3 b_2)) (fadd (fadd (fsub (fmul a_0 b_2) (fmul a_1 b_3)) (fmul a_2 b_0)) (fmul a_3 b_1)) (fadd (fsub (fadd (fmul a_0 b_3) (fmul a_1 b_2)) (fmul a_2 b_1)) (fmul a_3 b_0)))

def sQ137 (N : Nat) : TSQ137 := GQ137 N

abbrev TSQ125 : Type := Fl -> Fl -> Fl -> Fl -> (Fl -> Fl -> Fl -> Fl -> Int -> Bool) -> Bool

def GQ125 (N : Nat) (SQ7 : TSQ7) (q_0 q_1 q_2 q_3 : Fl) (k0 : Fl -> Fl -> Fl -> Fl -> Int -> Bool) : Bool :=
  (SQ7 q_0 q_1 q_2 q_3 (fun cr => (cond (!cr) (k0 (some 0) (some 0) (some 0) (some 0) 5) (k0 q_0 q_1 q_2 q_3 0))))

def sQ125 (N : Nat) : TSQ125 := GQ125 N (sQ7 N)

abbrev TSQ110 : Type := Fl -> Fl -> Fl -> Fl -> Fl -> Fl -> Fl -> Fl -> (Fl -> Fl -> Fl -> Fl -> Int -> Bool) -> Bool

def GQ110 (N : Nat) (SQ90 : TSQ90) (SQ137 : TSQ137) (SQ125 : TSQ125) (a_0 a_1 a_2 a_3 b_0 b_1 b_2 b_3 : Fl) (k0 : Fl -> Fl -> Fl -> Fl -> Int -> Bool) : Bool :=
  (SQ90 a_0 a_1 a_2 a_3 b_0 b_1 b_2 b_3 (fun cr => (cond (!cr) (k0 (some 0) (some 0) (some 0) (some 0) 4) (SQ137 a_0 a_1 a_2 a_3 b_0 b_1 b_2 b_3 (fun xr xr_1 xr_2 xr_3 => (SQ125 xr xr_1 xr_2 xr_3 (fun xr_4 xr_5 xr_6 xr_7 nr => (k0 xr_4 xr_5 xr_6 xr_7 nr))))))))

def sQ110 (N : Nat) : TSQ110 := GQ110 N (sQ90 N) (sQ137 N) (sQ125 N)

abbrev TSQ122 : Type := Fl -> (Int -> Bool) -> Bool

def sQ122 (N : Nat) : TSQ122 := fun x k => k (clsF x)

abbrev TSQ92 : Type := List Fl -> (Bool -> Bool) -> Bool

def st_an_Finite_0 (N : Nat) (SQ122 : TSQ122) (t6 : List Fl) (t7 : Int) (e0 : Bool -> Bool) (e1 : Bool) : (Int) -> ((Int) -> Bool) -> Bool := fun v_ K => match v_ with
  | t8 => (cond (decide (t8 < t7)) ((inR t8 (List.length t6)) && (SQ122 (List.getD t6 (Int.toNat t8) none) (fun nr => (cond ((nr == 1) == false) (cond (nr == 2) (e0 false) ((fits .i64 (t8 + 1)) && (K (t8 + 1)))) (e0 false))))) e1)

def GQ92 (N : Nat) (SQ122 : TSQ122) (l : List Fl) (k0 : Bool -> Bool) : Bool :=
  (iterG N (st_an_Finite_0 N SQ122 l (((List.length l) : Nat) : Int) (fun t2 => (k0 t2)) (k0 true)) 0)

def sQ92 (N : Nat) : TSQ92 := GQ92 N (sQ122 N)

abbrev TSQ6 : Type := Int -> (Int -> Bool) -> Bool

def GQ6 (N : Nat) (x : Int) (k0 : Int -> Bool) : Bool :=
  (cond (x == 0) (k0 64) ((inR (Int.fdiv (IntKind.wrap .u64 ((bitsN .and .u64 x (IntKind.wrap .u64 (0 - x))) * 285870213051353865)) (2 ^ 58)) 64) && ((fits .i64 (List.getD tab64 (Int.toNat (Int.fdiv (IntKind.wrap .u64 ((bitsN .and .u64 x (IntKind.wrap .u64 (0 - x))) * 285870213051353865)) (2 ^ 58))) 0)) && (k0 (List.getD tab64 (Int.toNat (Int.fdiv (IntKind.wrap .u64 ((bitsN .and .u64 x (IntKind.wrap .u64 (0 - x))) * 285870213051353865)) (2 ^ 58))) 0)))))

def sQ6 (N : Nat) : TSQ6 := GQ6 N

abbrev TSQ60 : Type := Int -> Int -> Int -> Int -> (Bool -> Int -> Int -> Int -> Bool) -> Bool

def JQ146 (N : Nat) (SQ25 : TSQ25) (SQ24 : TSQ24) (SQ63 : TSQ63) (SQ6 : TSQ6) (b f_0 f_1 f_2 : Int) (p : Bool) (p_1 p_2 : Int) (k0 : Bool -> Int -> Int -> Int -> Bool) : Bool :=
  (SQ6 p_1 (fun nr_4 => ((decide (0 <= nr_4)) && ((fits .i64 (p_2 + nr_4)) && (k0 p (Int.fdiv p_1 (2 ^ (min (Int.toNat nr_4) 64))) (p_2 + nr_4) 0)))))

def GQ60 (N : Nat) (SQ25 : TSQ25) (SQ24 : TSQ24) (SQ63 : TSQ63) (SQ6 : TSQ6) (b f_0 f_1 f_2 : Int) (k0 : Bool -> Int -> Int -> Int -> Bool) : Bool :=
  (SQ25 b f_0 f_1 f_2 (fun cr nr nr_1 => ((fits .i64 (nr - f_2)) && (SQ24 b f_0 f_1 f_2 (fun nr_2 => (cond (nr_2 == 1) (k0 false 0 0 4) (cond (nr_2 == 2) (k0 false 0 0 4) (cond (nr_2 == 3) (k0 cr 0 0 0) (cond (nr_2 == 4) ((fits .i64 ((nr - f_2) + 1)) && (JQ146 N SQ25 SQ24 SQ63 SQ6 b f_0 f_1 f_2 cr nr_1 ((nr - f_2) + 1) k0)) (SQ63 f_0 f_1 f_2 (fun nr_3 => (JQ146 N SQ25 SQ24 SQ63 SQ6 b f_0 f_1 f_2 cr (bitsN .or .u64 nr_1 nr_3) (nr - f_2) k0))))))))))))

def sQ60 (N : Nat) : TSQ60 := GQ60 N (sQ25 N) (sQ24 N) (sQ63 N) (sQ6 N)

abbrev TSQ134 : Type := Fl -> (Bool -> Int -> Int -> Int -> Bool) -> Bool

def GQ134 (N : Nat) (SQ102 : TSQ102) (S_an_of : TS_an_of) (SQ60 : TSQ60) (x : Fl) (k0 : Bool -> Int -> Int -> Int -> Bool) : Bool :=
  (SQ102 x (fun nr => (S_an_of (fun nr_1 nr_2 nr_3 => (SQ60 nr nr_1 nr_2 nr_3 (fun cr nr_4 nr_5 nr_6 => (k0 cr nr_4 nr_5 nr_6)))))))

def sQ134 (N : Nat) : TSQ134 := GQ134 N (sQ102 N) (s_an_of N) (sQ60 N)

abbrev TSQ1 : Type := List Int -> (Nat -> Nat -> Bool) -> Bool

def stQ164 (N : Nat) (x : List Int) (e0 : Int -> Bool) : (Int) -> ((Int) -> Bool) -> Bool := fun v_ K => match v_ with
  | n => (cond ((decide (n > 0)) == true) ((fits .i64 (n - 1)) && ((inR (n - 1) (List.length x)) && ((decide ((Int.toNat (n - 1)) < (List.length x))) && (cond ((List.getD x (Int.toNat (n - 1)) 0) == 0) ((fits .i64 (n - 1)) && (K (n - 1))) (e0 n))))) (e0 n))

def GQ1 (N : Nat) (b : List Int) (k0 : Nat -> Nat -> Bool) : Bool :=
  (iterG N (stQ164 N b (fun n_1 => ((decide (0 <= n_1 /\ n_1 <= (((List.length b) : Nat) : Int))) && (k0 0 ((Int.toNat n_1) - 0))))) (((List.length b) : Nat) : Int))

def sQ1 (N : Nat) : TSQ1 := GQ1 N

abbrev TSQ112 : Type := Int -> (List Int -> Bool) -> Bool

def GQ112 (N : Nat) (SQ1 : TSQ1) (n : Int) (k0 : List Int -> Bool) : Bool :=
  (SQ1 [n] (fun mr mr_1 => ((decide ((mr + mr_1) <= (List.length [n]))) && (k0 (List.take mr_1 (List.drop mr [n]))))))

def sQ112 (N : Nat) : TSQ112 := GQ112 N (sQ1 N)

abbrev TSQ0 : Type := Bool -> List Int -> Bool -> (Bool -> Bool) -> Bool

def GQ0 (N : Nat) (neg : Bool) (abs : List Int) (b : Bool) (k0 : Bool -> Bool) : Bool :=
  (cond (neg == true) (k0 (decide ((((List.length abs) : Nat) : Int) > 0))) (k0 false))

def sQ0 (N : Nat) : TSQ0 := GQ0 N

abbrev TSQ48 : Type := Int -> Bool -> (Bool -> List Int -> Bool) -> Bool

def GQ48 (N : Nat) (SQ112 : TSQ112) (SQ0 : TSQ0) (n : Int) (b : Bool) (k0 : Bool -> List Int -> Bool) : Bool :=
  (SQ112 n (fun nsr => (SQ0 false nsr b (fun cr => (k0 cr nsr)))))

def sQ48 (N : Nat) : TSQ48 := GQ48 N (sQ112 N) (sQ0 N)

abbrev TSQ65 : Type := List Int -> (List Int -> Bool) -> Bool

def GQ65 (N : Nat) (x : List Int) (k0 : List Int -> Bool) : Bool :=
  ((decide ((List.length ([] ++ x)) * 8 <= 140737488355328)) && (k0 ([] ++ x)))

def sQ65 (N : Nat) : TSQ65 := GQ65 N

abbrev TSQ28 : Type := Bool -> List Int -> Bool -> List Int -> (Bool -> Bool) -> Bool

def GQ28 (N : Nat) (neg : Bool) (abs : List Int) (b : Bool) (b_1 : List Int) (k0 : Bool -> Bool) : Bool :=
  (cond (neg == true) (k0 (decide ((((List.length abs) : Nat) : Int) > 0))) (k0 false))

def sQ28 (N : Nat) : TSQ28 := GQ28 N

abbrev TSQ22 : Type := Bool -> List Int -> (Bool -> List Int -> Bool) -> Bool

def GQ22 (N : Nat) (SQ65 : TSQ65) (SQ28 : TSQ28) (b : Bool) (b_1 : List Int) (k0 : Bool -> List Int -> Bool) : Bool :=
  (SQ65 b_1 (fun nsr => (SQ28 (!b) nsr b b_1 (fun cr => (k0 cr nsr)))))

def sQ22 (N : Nat) : TSQ22 := GQ22 N (sQ65 N) (sQ28 N)

abbrev TSQ127 : Type := Fl -> (Int -> Bool -> List Int -> Bool) -> Bool

def GQ127 (N : Nat) (SQ134 : TSQ134) (SQ48 : TSQ48) (SQ22 : TSQ22) (x : Fl) (k0 : Int -> Bool -> List Int -> Bool) : Bool :=
  (SQ134 x (fun cr nr nr_1 nr_2 => (SQ48 nr false (fun cr_1 nsr => (cond cr (SQ22 cr_1 nsr (fun cr_2 nsr_1 => (k0 nr_1 cr_2 nsr_1))) (k0 nr_1 cr_1 nsr))))))

def sQ127 (N : Nat) : TSQ127 := GQ127 N (sQ134 N) (sQ48 N) (sQ22 N)

abbrev TSQ93 : Type := Int -> Int -> (Int -> Int -> Bool) -> Bool

def GQ93 (N : Nat) (x y : Int) (k0 : Int -> Int -> Bool) : Bool :=
  (k0 (IntKind.wrap .u64 ((IntKind.wrap .u64 ((IntKind.wrap .u64 ((Int.fdiv x (2 ^ 32)) * (Int.fdiv y (2 ^ 32)))) + (Int.fdiv (IntKind.wrap .u64 ((IntKind.wrap .u64 ((Int.fdiv x (2 ^ 32)) * (bitsN .and .u64 y 4294967295))) + (Int.fdiv (IntKind.wrap .u64 ((bitsN .and .u64 x 4294967295) * (bitsN .and .u64 y 4294967295))) (2 ^ 32)))) (2 ^ 32)))) + (Int.fdiv (IntKind.wrap .u64 ((bitsN .and .u64 (IntKind.wrap .u64 ((IntKind.wrap .u64 ((Int.fdiv x (2 ^ 32)) * (bitsN .and .u64 y 4294967295))) + (Int.fdiv (IntKind.wrap .u64 ((bitsN .and .u64 x 4294967295) * (bitsN .and .u64 y 4294967295))) (2 ^ 32)))) 4294967295) + (IntKind.wrap .u64 ((bitsN .and .u64 x 4294967295) * (Int.fdiv y (2 ^ 32)))))) (2 ^ 32)))) (IntKind.wrap .u64 (x * y)))

def sQ93 (N : Nat) : TSQ93 := GQ93 N

abbrev TSQ61 : Type := Int -> Int -> Int -> (Int -> Int -> Bool) -> Bool

def sQ61 (N : Nat) : TSQ61 := fun x y c k => (decide (c.toNat <= 1)) && k (((x.toNat + y.toNat + c.toNat) % 18446744073709551616 : Nat) : Int) (((x.toNat + y.toNat + c.toNat) / 18446744073709551616 : Nat) : Int)

abbrev TSQ88 : Type := Int -> Int -> Int -> Int -> (Int -> Int -> Bool) -> Bool

def GQ88 (N : Nat) (SQ93 : TSQ93) (SQ61 : TSQ61) (a b c d : Int) (k0 : Int -> Int -> Bool) : Bool :=
  (SQ93 a b (fun nr nr_1 => (SQ61 nr_1 c 0 (fun nr_2 nr_3 => (SQ61 nr_2 d 0 (fun nr_4 nr_5 => (k0 (IntKind.wrap .u64 ((IntKind.wrap .u64 (nr + nr_3)) + nr_5)) nr_4)))))))

def sQ88 (N : Nat) : TSQ88 := GQ88 N (sQ93 N) (sQ61 N)

abbrev TSQ119 : Type := List Int -> List Int -> (List Int -> Bool) -> Bool

def st_big_times_2 (N : Nat) (SQ88 : TSQ88) (SQ1 : TSQ1) (y_2 : List Int) (i a : Int) (t25_1 : List Int) (t26_1 t27_1 : Int) (t32 : List Int) (t33 : Int) (e0 : Int -> List Int -> Bool) : (Int × Int × List Int) -> ((Int × Int × List Int) -> Bool) -> Bool := fun v_ K => match v_ with
  | (carry, t34, z_1) => (cond (decide (t34 < t33)) ((inR t34 (List.length t32)) && ((fits .i64 (i + t34)) && ((fits .i64 (i + t34)) && ((inR (i + t34) (List.length z_1)) && ((decide ((Int.toNat (i + t34)) < (List.length z_1))) && (SQ88 a (List.getD t32 (Int.toNat t34) 0) (List.getD z_1 (Int.toNat (i + t34)) 0) carry (fun nr nr_1 => ((inR (i + t34) (List.length z_1)) && ((decide ((Int.toNat (i + t34)) < (List.length z_1))) && ((fits .i64 (t34 + 1)) && (K (nr, (t34 + 1), (List.set z_1 (Int.toNat (i + t34)) nr_1))))))))))))) (e0 carry z_1))

def st_big_times_0 (N : Nat) (SQ88 : TSQ88) (SQ1 : TSQ1) (y_1 t25 : List Int) (t26 : Int) (e0 : List Int -> Bool) : (Int × List Int) -> ((Int × List Int) -> Bool) -> Bool := fun v_ K => match v_ with
  | (t27, z) => (cond (decide (t27 < t26)) ((inR t27 (List.length t25)) && (iterG N (st_big_times_2 N SQ88 SQ1 y_1 t27 (List.getD t25 (Int.toNat t27) 0) t25 t26 t27 y_1 (((List.length y_1) : Nat) : Int) (fun carry_1 z_2 => ((fits .i64 (t27 + (((List.length y_1) : Nat) : Int))) && ((inR (t27 + (((List.length y_1) : Nat) : Int)) (List.length z_2)) && ((decide ((Int.toNat (t27 + (((List.length y_1) : Nat) : Int))) < (List.length z_2))) && ((fits .i64 (t27 + 1)) && (K ((t27 + 1), (List.set z_2 (Int.toNat (t27 + (((List.length y_1) : Nat) : Int))) carry_1))))))))) (0, 0, z))) (e0 z))

def GQ119 (N : Nat) (SQ88 : TSQ88) (SQ1 : TSQ1) (x y : List Int) (k0 : List Int -> Bool) : Bool :=
  (cond (((((List.length x) : Nat) : Int) == 0) == false) (cond ((((List.length y) : Nat) : Int) == 0) (k0 []) ((fits .i64 ((((List.length x) : Nat) : Int) + (((List.length y) : Nat) : Int))) && ((mkOk 8 ((((List.length x) : Nat) : Int) + (((List.length y) : Nat) : Int)) ((((List.length x) : Nat) : Int) + (((List.length y) : Nat) : Int))) && (iterG N (st_big_times_0 N SQ88 SQ1 y x (((List.length x) : Nat) : Int) (fun z_3 => (SQ1 z_3 (fun mr mr_1 => ((decide ((mr + mr_1) <= (List.length z_3))) && (k0 (List.take mr_1 (List.drop mr z_3)))))))) (0, (List.replicate (Int.toNat ((((List.length x) : Nat) : Int) + (((List.length y) : Nat) : Int))) (0 : Int))))))) (k0 []))

def sQ119 (N : Nat) : TSQ119 := GQ119 N (sQ88 N) (sQ1 N)

abbrev TSQ49 : Type := Bool -> Bool -> List Int -> Bool -> List Int -> (Bool -> List Int -> Bool) -> Bool

def GQ49 (N : Nat) (SQ119 : TSQ119) (SQ0 : TSQ0) (b b_1 : Bool) (b_2 : List Int) (b_3 : Bool) (b_4 : List Int) (k0 : Bool -> List Int -> Bool) : Bool :=
  (SQ119 b_2 b_4 (fun nsr => (SQ0 (b_1 != b_3) nsr b (fun cr => (k0 cr nsr)))))

def sQ49 (N : Nat) : TSQ49 := GQ49 N (sQ119 N) (sQ0 N)

abbrev TSQ13 : Type := Int -> Int -> Bool -> List Int -> Bool -> List Int -> (Int -> Bool -> List Int -> Bool) -> Bool

def GQ13 (N : Nat) (SQ49 : TSQ49) (x y : Int) (b : Bool) (b_1 : List Int) (b_2 : Bool) (b_3 : List Int) (k0 : Int -> Bool -> List Int -> Bool) : Bool :=
  (SQ49 false b b_1 b_2 b_3 (fun cr nsr => ((fits .i64 (x + y)) && (k0 (x + y) cr nsr))))

def sQ13 (N : Nat) : TSQ13 := GQ13 N (sQ49 N)

abbrev TSQ69 : Type := Bool -> (Int -> List Int -> Bool) -> Bool

def GQ69 (N : Nat) (b : Bool) (k0 : Int -> List Int -> Bool) : Bool :=
  (cond b (k0 (-1) []) (k0 0 []))

def sQ69 (N : Nat) : TSQ69 := GQ69 N

abbrev TSQ4 : Type := Bool -> List Int -> (Int -> Bool) -> Bool

def GQ4 (N : Nat) (b : Bool) (b_1 : List Int) (k0 : Int -> Bool) : Bool :=
  (cond b (k0 (-1)) (cond ((((List.length b_1) : Nat) : Int) == 0) (k0 0) (k0 1)))

def sQ4 (N : Nat) : TSQ4 := GQ4 N

abbrev TSQ89 : Type := List Int -> Int -> (List Int -> Bool) -> Bool

def st_big_left_0 (N : Nat) (SQ1 : TSQ1) (words rest : Int) (t24 : List Int) (t25 : Int) (e0 : List Int -> Bool) : (Int × List Int) -> ((Int × List Int) -> Bool) -> Bool := fun v_ K => match v_ with
  | (t26, z) => (cond (decide (t26 < t25)) ((inR t26 (List.length t24)) && ((fits .i64 (words + t26)) && ((inR (words + t26) (List.length z)) && ((decide ((Int.toNat (words + t26)) < (List.length z))) && ((decide (0 <= rest)) && ((inR (words + t26) (List.length z)) && ((decide ((Int.toNat (words + t26)) < (List.length z))) && ((fits .i64 (words + t26)) && ((fits .i64 ((words + t26) + 1)) && ((decide (0 <= (IntKind.wrap .u64 (64 - rest)))) && ((inR ((words + t26) + 1) (List.length (List.set z (Int.toNat (words + t26)) (bitsN .or .u64 (List.getD z (Int.toNat (words + t26)) 0) (IntKind.wrap .u64 ((List.getD t24 (Int.toNat t26) 0) * 2 ^ (min (Int.toNat rest) 64))))))) && ((decide ((Int.toNat ((words + t26) + 1)) < (List.length (List.set z (Int.toNat (words + t26)) (bitsN .or .u64 (List.getD z (Int.toNat (words + t26)) 0) (IntKind.wrap .u64 ((List.getD t24 (Int.toNat t26) 0) * 2 ^ (min (Int.toNat rest) 64)))))))) && ((fits .i64 (t26 + 1)) && (K ((t26 + 1), (List.set (List.set z (Int.toNat (words + t26)) (bitsN .or .u64 (List.getD z (Int.toNat (words + t26)) 0) (IntKind.wrap .u64 ((List.getD t24 (Int.toNat t26) 0) * 2 ^ (min (Int.toNat rest) 64))))) (Int.toNat ((words + t26) + 1)) (Int.fdiv (List.getD t24 (Int.toNat t26) 0) (2 ^ (min (Int.toNat (IntKind.wrap .u64 (64 - rest))) 64))))))))))))))))))) (e0 z))

def GQ89 (N : Nat) (SQ1 : TSQ1) (x : List Int) (n : Int) (k0 : List Int -> Bool) : Bool :=
  (cond ((((List.length x) : Nat) : Int) == 0) (k0 []) ((fits .i64 (IntKind.wrap .u64 (Int.tdiv n 64))) && ((fits .i64 ((IntKind.wrap .u64 (Int.tdiv n 64)) + (((List.length x) : Nat) : Int))) && ((fits .i64 (((IntKind.wrap .u64 (Int.tdiv n 64)) + (((List.length x) : Nat) : Int)) + 1)) && ((mkOk 8 (((IntKind.wrap .u64 (Int.tdiv n 64)) + (((List.length x) : Nat) : Int)) + 1) (((IntKind.wrap .u64 (Int.tdiv n 64)) + (((List.length x) : Nat) : Int)) + 1)) && (iterG N (st_big_left_0 N SQ1 (IntKind.wrap .u64 (Int.tdiv n 64)) (Int.tmod n 64) x (((List.length x) : Nat) : Int) (fun z_1 => (SQ1 z_1 (fun mr mr_1 => ((decide ((mr + mr_1) <= (List.length z_1))) && (k0 (List.take mr_1 (List.drop mr z_1)))))))) (0, (List.replicate (Int.toNat (((IntKind.wrap .u64 (Int.tdiv n 64)) + (((List.length x) : Nat) : Int)) + 1)) (0 : Int)))))))))

def sQ89 (N : Nat) : TSQ89 := GQ89 N (sQ1 N)

abbrev TSQ58 : Type := Int -> Bool -> Bool -> List Int -> (Bool -> List Int -> Bool) -> Bool

def GQ58 (N : Nat) (SQ89 : TSQ89) (SQ0 : TSQ0) (n : Int) (b b_1 : Bool) (b_2 : List Int) (k0 : Bool -> List Int -> Bool) : Bool :=
  (SQ89 b_2 n (fun nsr => (SQ0 b_1 nsr b (fun cr => (k0 cr nsr)))))

def sQ58 (N : Nat) : TSQ58 := GQ58 N (sQ89 N) (sQ0 N)

abbrev TSQ30 : Type := Int -> Int -> Bool -> List Int -> (Bool -> List Int -> Bool) -> Bool

def GQ30 (N : Nat) (SQ58 : TSQ58) (x e : Int) (b : Bool) (b_1 : List Int) (k0 : Bool -> List Int -> Bool) : Bool :=
  ((fits .i64 (x - e)) && (SQ58 (IntKind.wrap .u64 (x - e)) false b b_1 (fun cr nsr => (k0 cr nsr))))

def sQ30 (N : Nat) : TSQ30 := GQ30 N (sQ58 N)

abbrev TSQ14 : Type := List Int -> Int -> (Int -> Bool) -> Bool

def GQ14 (N : Nat) (x : List Int) (i : Int) (k0 : Int -> Bool) : Bool :=
  (cond (decide (i < (((List.length x) : Nat) : Int))) ((inR i (List.length x)) && (k0 (List.getD x (Int.toNat i) 0))) (k0 0))

def sQ14 (N : Nat) : TSQ14 := GQ14 N

abbrev TSQ126 : Type := List Int -> List Int -> (List Int -> Bool) -> Bool

def st_big_sum_0 (N : Nat) (SQ14 : TSQ14) (SQ61 : TSQ61) (SQ1 : TSQ1) (x_1 y_1 : List Int) (n t17 : Int) (e0 : Int -> List Int -> Bool) : (Int × Int × List Int) -> ((Int × Int × List Int) -> Bool) -> Bool := fun v_ K => match v_ with
  | (carry, t18, z) => (cond (decide (t18 < t17)) (SQ14 x_1 t18 (fun nr => (SQ14 y_1 t18 (fun nr_1 => (SQ61 nr nr_1 carry (fun nr_2 nr_3 => ((inR t18 (List.length z)) && ((decide ((Int.toNat t18) < (List.length z))) && ((fits .i64 (t18 + 1)) && (K (nr_3, (t18 + 1), (List.set z (Int.toNat t18) nr_2)))))))))))) (e0 carry z))

def GQ126 (N : Nat) (SQ14 : TSQ14) (SQ61 : TSQ61) (SQ1 : TSQ1) (x y : List Int) (k0 : List Int -> Bool) : Bool :=
  ((fits .i64 ((imm true (((List.length x) : Nat) : Int) (((List.length y) : Nat) : Int)) + 1)) && ((mkOk 8 ((imm true (((List.length x) : Nat) : Int) (((List.length y) : Nat) : Int)) + 1) ((imm true (((List.length x) : Nat) : Int) (((List.length y) : Nat) : Int)) + 1)) && (iterG N (st_big_sum_0 N SQ14 SQ61 SQ1 x y (imm true (((List.length x) : Nat) : Int) (((List.length y) : Nat) : Int)) (imm true (((List.length x) : Nat) : Int) (((List.length y) : Nat) : Int)) (fun carry_1 z_1 => ((inR (imm true (((List.length x) : Nat) : Int) (((List.length y) : Nat) : Int)) (List.length z_1)) && ((decide ((Int.toNat (imm true (((List.length x) : Nat) : Int) (((List.length y) : Nat) : Int))) < (List.length z_1))) && (SQ1 (List.set z_1 (Int.toNat (imm true (((List.length x) : Nat) : Int) (((List.length y) : Nat) : Int))) carry_1) (fun mr mr_1 => ((decide ((mr + mr_1) <= (List.length (List.set z_1 (Int.toNat (imm true (((List.length x) : Nat) : Int) (((List.length y) : Nat) : Int))) carry_1)))) && (k0 (List.take mr_1 (List.drop mr (List.set z_1 (Int.toNat (imm true (((List.length x) : Nat) : Int) (((List.length y) : Nat) : Int))) carry_1))))))))))) (0, 0, (List.replicate (Int.toNat ((imm true (((List.length x) : Nat) : Int) (((List.length y) : Nat) : Int)) + 1)) (0 : Int))))))

def sQ126 (N : Nat) : TSQ126 := GQ126 N (sQ14 N) (sQ61 N) (sQ1 N)

abbrev TSQ98 : Type := List Int -> List Int -> (Int -> Bool) -> Bool

def stQ162 (N : Nat) (x_1 y_1 : List Int) (e0 : Int -> Bool) (e1 : Bool) : (Int) -> ((Int) -> Bool) -> Bool := fun v_ K => match v_ with
  | i => (cond (decide (i >= 0)) ((inR i (List.length x_1)) && ((inR i (List.length y_1)) && (cond ((List.getD x_1 (Int.toNat i) 0) != (List.getD y_1 (Int.toNat i) 0)) ((inR i (List.length x_1)) && ((inR i (List.length y_1)) && (cond (decide ((List.getD x_1 (Int.toNat i) 0) < (List.getD y_1 (Int.toNat i) 0))) (e0 (-1)) (e0 1)))) ((fits .i64 (i - 1)) && (K (i - 1)))))) e1)

def GQ98 (N : Nat) (x y : List Int) (k0 : Int -> Bool) : Bool :=
  (cond ((((List.length x) : Nat) : Int) != (((List.length y) : Nat) : Int)) (cond (decide ((((List.length x) : Nat) : Int) < (((List.length y) : Nat) : Int))) (k0 (-1)) (k0 1)) ((fits .i64 ((((List.length x) : Nat) : Int) - 1)) && (iterG N (stQ162 N x y (fun t4 => (k0 t4)) (k0 0)) ((((List.length x) : Nat) : Int) - 1))))

def sQ98 (N : Nat) : TSQ98 := GQ98 N

abbrev TSQ81 : Type := Int -> Int -> Int -> (Int -> Int -> Bool) -> Bool

def sQ81 (N : Nat) : TSQ81 := fun x y c k => (decide (c.toNat <= 1)) && k (((x.toNat + 18446744073709551616 - y.toNat - c.toNat) % 18446744073709551616 : Nat) : Int) (cond (decide (x.toNat < y.toNat + c.toNat)) 1 0)

abbrev TSQ130 : Type := List Int -> List Int -> (List Int -> Bool) -> Bool

def st_big_less_0 (N : Nat) (SQ14 : TSQ14) (SQ81 : TSQ81) (SQ1 : TSQ1) (x_1 y_1 : List Int) (t12 : Int) (e0 : List Int -> Bool) : (Int × Int × List Int) -> ((Int × Int × List Int) -> Bool) -> Bool := fun v_ K => match v_ with
  | (borrow, t13, z) => (cond (decide (t13 < t12)) ((inR t13 (List.length x_1)) && (SQ14 y_1 t13 (fun nr => (SQ81 (List.getD x_1 (Int.toNat t13) 0) nr borrow (fun nr_1 nr_2 => ((inR t13 (List.length z)) && ((decide ((Int.toNat t13) < (List.length z))) && ((fits .i64 (t13 + 1)) && (K (nr_2, (t13 + 1), (List.set z (Int.toNat t13) nr_1))))))))))) (e0 z))

def GQ130 (N : Nat) (SQ14 : TSQ14) (SQ81 : TSQ81) (SQ1 : TSQ1) (x y : List Int) (k0 : List Int -> Bool) : Bool :=
  ((mkOk 8 (((List.length x) : Nat) : Int) (((List.length x) : Nat) : Int)) && (iterG N (st_big_less_0 N SQ14 SQ81 SQ1 x y (((List.length x) : Nat) : Int) (fun z_1 => (SQ1 z_1 (fun mr mr_1 => ((decide ((mr + mr_1) <= (List.length z_1))) && (k0 (List.take mr_1 (List.drop mr z_1)))))))) (0, 0, (List.replicate (Int.toNat (((List.length x) : Nat) : Int)) (0 : Int)))))

def sQ130 (N : Nat) : TSQ130 := GQ130 N (sQ14 N) (sQ81 N) (sQ1 N)

abbrev TSQ56 : Type := Bool -> List Int -> Bool -> Bool -> List Int -> (Bool -> List Int -> Bool) -> Bool

def GQ56 (N : Nat) (SQ126 : TSQ126) (SQ0 : TSQ0) (SQ98 : TSQ98) (SQ130 : TSQ130) (neg : Bool) (y : List Int) (b b_1 : Bool) (b_2 : List Int) (k0 : Bool -> List Int -> Bool) : Bool :=
  (cond (b_1 == neg) (SQ126 b_2 y (fun nsr => (SQ0 neg nsr b (fun cr => (k0 cr nsr))))) (SQ98 b_2 y (fun nr => (cond (decide (nr >= 0)) (SQ130 b_2 y (fun nsr_1 => (SQ0 b_1 nsr_1 b (fun cr_1 => (k0 cr_1 nsr_1))))) (SQ130 y b_2 (fun nsr_2 => (SQ0 neg nsr_2 b (fun cr_2 => (k0 cr_2 nsr_2)))))))))

def sQ56 (N : Nat) : TSQ56 := GQ56 N (sQ126 N) (sQ0 N) (sQ98 N) (sQ130 N)

abbrev TSQ23 : Type := Bool -> Bool -> List Int -> Bool -> List Int -> (Bool -> List Int -> Bool) -> Bool

def GQ23 (N : Nat) (SQ56 : TSQ56) (b b_1 : Bool) (b_2 : List Int) (b_3 : Bool) (b_4 : List Int) (k0 : Bool -> List Int -> Bool) : Bool :=
  (SQ56 b_3 b_4 b b_1 b_2 (fun cr nsr => (k0 cr nsr)))

def sQ23 (N : Nat) : TSQ23 := GQ23 N (sQ56 N)

abbrev TSQ15 : Type := Int -> Int -> Bool -> Bool -> List Int -> (List Int -> Bool) -> (List Int -> Bool) -> (Int -> List Int -> Bool -> List Int -> Bool) -> Bool

def GQ15 (N : Nat) (SQ69 : TSQ69) (SQ4 : TSQ4) (SQ30 : TSQ30) (SQ23 : TSQ23) (x y : Int) (b b_1 : Bool) (b_2 : List Int) (k0 : List Int -> Bool) (k1 : List Int -> Bool) (k2 : Int -> List Int -> Bool -> List Int -> Bool) : Bool :=
  (SQ69 b (fun nr nsr => (cond (nr == 0) (k0 nsr) (SQ4 b_1 b_2 (fun nr_1 => (cond (nr_1 == 0) (k1 nsr) (SQ30 x (imm false x y) b nsr (fun cr nsr_1 => (SQ30 y (imm false x y) b_1 b_2 (fun cr_1 nsr_2 => (SQ23 false cr nsr_1 cr_1 nsr_2 (fun cr_2 nsr_3 => (k2 (imm false x y) nsr cr_2 nsr_3)))))))))))))

def sQ15 (N : Nat) : TSQ15 := GQ15 N (sQ69 N) (sQ4 N) (sQ30 N) (sQ23 N)

abbrev TSQ5 : Type := Int -> Int -> Bool -> List Int -> Bool -> List Int -> (Bool) -> (Bool) -> (Int -> Bool -> List Int -> Bool) -> Bool

def GQ5 (N : Nat) (SQ4 : TSQ4) (SQ30 : TSQ30) (SQ23 : TSQ23) (x y : Int) (b : Bool) (b_1 : List Int) (b_2 : Bool) (b_3 : List Int) (k0 k1 : Bool) (k2 : Int -> Bool -> List Int -> Bool) : Bool :=
  (SQ4 b b_1 (fun nr => (cond (nr == 0) k0 (SQ4 b_2 b_3 (fun nr_1 => (cond (nr_1 == 0) k1 (SQ30 x (imm false x y) b b_1 (fun cr nsr => (SQ30 y (imm false x y) b_2 b_3 (fun cr_1 nsr_1 => (SQ23 false cr nsr cr_1 nsr_1 (fun cr_2 nsr_2 => (k2 (imm false x y) cr_2 nsr_2)))))))))))))

def sQ5 (N : Nat) : TSQ5 := GQ5 N (sQ4 N) (sQ30 N) (sQ23 N)

abbrev TSQ32 : Type := Bool -> Bool -> List Int -> (Bool -> List Int -> Bool) -> Bool

def GQ32 (N : Nat) (SQ65 : TSQ65) (SQ0 : TSQ0) (b b_1 : Bool) (b_2 : List Int) (k0 : Bool -> List Int -> Bool) : Bool :=
  (SQ65 b_2 (fun nsr => (SQ0 b_1 nsr b (fun cr => (k0 cr nsr)))))

def sQ32 (N : Nat) : TSQ32 := GQ32 N (sQ65 N) (sQ0 N)

abbrev TSQ50 : Type := Int -> Bool -> List Int -> (Int -> Bool) -> Bool

def GQ50 (N : Nat) (SQ14 : TSQ14) (i : Int) (b : Bool) (b_1 : List Int) (k0 : Int -> Bool) : Bool :=
  ((fits .i64 (Int.tdiv i 64)) && (SQ14 b_1 (Int.tdiv i 64) (fun nr => ((decide (0 <= (Int.tmod i 64))) && (k0 (bitsN .and .u64 (Int.fdiv nr (2 ^ (min (Int.toNat (Int.tmod i 64)) 64))) 1))))))

def sQ50 (N : Nat) : TSQ50 := GQ50 N (sQ14 N)

abbrev TSQ8 : Type := Bool -> List Int -> (Int -> Bool) -> Bool

def stQ153 (N : Nat) (SQ6 : TSQ6) (t8 : List Int) (t9 : Int) (b0 : Bool) (b0_1 : List Int) (e0 : Int -> Bool) (e1 : Bool) : (Int) -> ((Int) -> Bool) -> Bool := fun v_ K => match v_ with
  | t10 => (cond (decide (t10 < t9)) ((inR t10 (List.length t8)) && (cond ((List.getD t8 (Int.toNat t10) 0) != 0) ((fits .i64 (64 * t10)) && (SQ6 (List.getD t8 (Int.toNat t10) 0) (fun nr => ((fits .i64 ((64 * t10) + nr)) && (e0 (IntKind.wrap .u64 ((64 * t10) + nr))))))) ((fits .i64 (t10 + 1)) && (K (t10 + 1))))) e1)

def GQ8 (N : Nat) (SQ6 : TSQ6) (b : Bool) (b_1 : List Int) (k0 : Int -> Bool) : Bool :=
  (iterG N (stQ153 N SQ6 b_1 (((List.length b_1) : Nat) : Int) b b_1 (fun t2 => (k0 t2)) (k0 0)) 0)

def sQ8 (N : Nat) : TSQ8 := GQ8 N (sQ6 N)

abbrev TSQ116 : Type := List Int -> Int -> (List Int -> Bool -> Bool) -> Bool

def st_big_right_0 (N : Nat) (SQ14 : TSQ14) (SQ1 : TSQ1) (x_1 : List Int) (words rest : Int) (t37 : List Int) (t38 : Int) (e0 : Int -> Bool) : (Int × Int) -> ((Int × Int) -> Bool) -> Bool := fun v_ K => match v_ with
  | (lost, t39) => (cond (decide (t39 < t38)) ((inR t39 (List.length t37)) && ((fits .i64 (t39 + 1)) && (K ((bitsN .or .u64 lost (List.getD t37 (Int.toNat t39) 0)), (t39 + 1))))) (e0 lost))

def st_big_right_2 (N : Nat) (SQ14 : TSQ14) (SQ1 : TSQ1) (x_2 : List Int) (words_1 rest_1 lost_2 t53 : Int) (e0 : List Int -> Bool) : (Int × List Int) -> ((Int × List Int) -> Bool) -> Bool := fun v_ K => match v_ with
  | (t54, z) => (cond (decide (t54 < t53)) ((fits .i64 (words_1 + t54)) && (SQ14 x_2 (words_1 + t54) (fun nr => ((decide (0 <= rest_1)) && ((fits .i64 (words_1 + t54)) && ((fits .i64 ((words_1 + t54) + 1)) && (SQ14 x_2 ((words_1 + t54) + 1) (fun nr_1 => ((decide (0 <= (IntKind.wrap .u64 (64 - rest_1)))) && ((inR t54 (List.length z)) && ((decide ((Int.toNat t54) < (List.length z))) && ((fits .i64 (t54 + 1)) && (K ((t54 + 1), (List.set z (Int.toNat t54) (bitsN .or .u64 (Int.fdiv nr (2 ^ (min (Int.toNat rest_1) 64))) (IntKind.wrap .u64 (nr_1 * 2 ^ (min (Int.toNat (IntKind.wrap .u64 (64 - rest_1))) 64))))))))))))))))))) (e0 z))

def GQ116 (N : Nat) (SQ14 : TSQ14) (SQ1 : TSQ1) (x : List Int) (n : Int) (k0 : List Int -> Bool -> Bool) : Bool :=
  (cond (decide ((IntKind.wrap .u64 (Int.tdiv n 64)) >= (IntKind.wrap .u64 (((List.length x) : Nat) : Int)))) (k0 [] (decide ((((List.length x) : Nat) : Int) > 0))) ((fits .i64 (IntKind.wrap .u64 (Int.tdiv n 64))) && ((inR (IntKind.wrap .u64 (Int.tdiv n 64)) (List.length x)) && ((decide (0 <= (Int.tmod n 64))) && ((decide (0 <= (IntKind.wrap .u64 (Int.tdiv n 64)) /\ (IntKind.wrap .u64 (Int.tdiv n 64)) <= (((List.length x) : Nat) : Int))) && (iterG N (st_big_right_0 N SQ14 SQ1 x (IntKind.wrap .u64 (Int.tdiv n 64)) (Int.tmod n 64) (List.drop 0 (List.take (Int.toNat (IntKind.wrap .u64 (Int.tdiv n 64))) x)) (((List.length (List.drop 0 (List.take (Int.toNat (IntKind.wrap .u64 (Int.tdiv n 64))) x))) : Nat) : Int) (fun lost_1 => ((fits .i64 ((((List.length x) : Nat) : Int) - (IntKind.wrap .u64 (Int.tdiv n 64)))) && ((mkOk 8 ((((List.length x) : Nat) : Int) - (IntKind.wrap .u64 (Int.tdiv n 64))) ((((List.length x) : Nat) : Int) - (IntKind.wrap .u64 (Int.tdiv n 64)))) && (iterG N (st_big_right_2 N SQ14 SQ1 x (IntKind.wrap .u64 (Int.tdiv n 64)) (Int.tmod n 64) lost_1 (((List.length (List.replicate (Int.toNat ((((List.length x) : Nat) : Int) - (IntKind.wrap .u64 (Int.tdiv n 64)))) (0 : Int))) : Nat) : Int) (fun z_1 => (SQ1 z_1 (fun mr mr_1 => ((decide ((mr + mr_1) <= (List.length z_1))) && (k0 (List.take mr_1 (List.drop mr z_1)) (lost_1 != 0))))))) (0, (List.replicate (Int.toNat ((((List.length x) : Nat) : Int) - (IntKind.wrap .u64 (Int.tdiv n 64)))) (0 : Int)))))))) ((bitsN .and .u64 (List.getD x (Int.toNat (IntKind.wrap .u64 (Int.tdiv n 64))) 0) (IntKind.wrap .u64 ((IntKind.wrap .u64 ((1 : Int) * 2 ^ (min (Int.toNat (Int.tmod n 64)) 64))) - 1))), 0)))))))

def sQ116 (N : Nat) : TSQ116 := GQ116 N (sQ14 N) (sQ1 N)

abbrev TSQ11 : Type := Int -> Bool -> List Int -> (Bool -> List Int -> Bool) -> Bool

def GQ11 (N : Nat) (SQ116 : TSQ116) (SQ126 : TSQ126) (SQ28 : TSQ28) (n : Int) (b : Bool) (b_1 : List Int) (k0 : Bool -> List Int -> Bool) : Bool :=
  (SQ116 b_1 n (fun nsr cr => (cond (b == true) (cond cr (SQ126 nsr [1] (fun nsr_1 => (SQ28 b nsr_1 b b_1 (fun cr_1 => (k0 cr_1 nsr_1))))) (SQ28 b nsr b b_1 (fun cr_2 => (k0 cr_2 nsr)))) (SQ28 b nsr b b_1 (fun cr_3 => (k0 cr_3 nsr))))))

def sQ11 (N : Nat) : TSQ11 := GQ11 N (sQ116 N) (sQ126 N) (sQ28 N)

abbrev TSQ17 : Type := Int -> Bool -> List Int -> (Int -> Bool -> List Int -> Bool) -> Bool

def stQ151 (N : Nat) (SQ32 : TSQ32) (SQ4 : TSQ4) (SQ50 : TSQ50) (SQ8 : TSQ8) (SQ11 : TSQ11) (b0 : Bool) (b0_1 : List Int) (t2 : Value) (t2_1 : Int) (e0 : Int -> Bool -> List Int -> Bool) : (Int × Bool × List Int) -> ((Int × Bool × List Int) -> Bool) -> Bool := fun v_ K => match v_ with
  | (e, n, n_1) => (SQ4 n n_1 (fun nr => (cond ((nr != 0) == true) (SQ50 0 n n_1 (fun nr_1 => (cond (nr_1 == 0) (SQ8 n n_1 (fun nr_2 => (SQ11 nr_2 n n_1 (fun cr_1 nsr_1 => ((fits .i64 nr_2) && ((fits .i64 (e + nr_2)) && (K ((e + nr_2), cr_1, nsr_1)))))))) (e0 e n n_1)))) (e0 e n n_1))))

def GQ17 (N : Nat) (SQ32 : TSQ32) (SQ4 : TSQ4) (SQ50 : TSQ50) (SQ8 : TSQ8) (SQ11 : TSQ11) (x : Int) (b : Bool) (b_1 : List Int) (k0 : Int -> Bool -> List Int -> Bool) : Bool :=
  (SQ32 false b b_1 (fun cr nsr => (iterG N (stQ151 N SQ32 SQ4 SQ50 SQ8 SQ11 b b_1 (.pointer none) 0 (fun e_1 n_2 n_3 => (k0 e_1 n_2 n_3))) (x, cr, nsr))))

def sQ17 (N : Nat) : TSQ17 := GQ17 N (sQ32 N) (sQ4 N) (sQ50 N) (sQ8 N) (sQ11 N)

abbrev TSQ80 : Type := Int -> (Int -> Bool) -> Bool

def JQ154 (N : Nat) (x x_2 n_1 : Int) (k0 : Int -> Bool) : Bool :=
  (cond (decide (x_2 >= 256)) ((fits .i64 (n_1 + 8)) && ((inR (IntKind.wrap .u8 (Int.fdiv x_2 (2 ^ 8))) 256) && ((fits .i64 (List.getD strTab_11c1601c (Int.toNat (IntKind.wrap .u8 (Int.fdiv x_2 (2 ^ 8)))) 0)) && ((fits .i64 ((n_1 + 8) + (List.getD strTab_11c1601c (Int.toNat (IntKind.wrap .u8 (Int.fdiv x_2 (2 ^ 8)))) 0))) && (k0 ((n_1 + 8) + (List.getD strTab_11c1601c (Int.toNat (IntKind.wrap .u8 (Int.fdiv x_2 (2 ^ 8)))) 0))))))) ((inR (IntKind.wrap .u8 x_2) 256) && ((fits .i64 (List.getD strTab_11c1601c (Int.toNat (IntKind.wrap .u8 x_2)) 0)) && ((fits .i64 (n_1 + (List.getD strTab_11c1601c (Int.toNat (IntKind.wrap .u8 x_2)) 0))) && (k0 (n_1 + (List.getD strTab_11c1601c (Int.toNat (IntKind.wrap .u8 x_2)) 0)))))))

def JQ152 (N : Nat) (x x_1 n : Int) (k0 : Int -> Bool) : Bool :=
  (cond (decide (x_1 >= 65536)) ((fits .i64 (n + 16)) && (JQ154 N x (Int.fdiv x_1 (2 ^ 16)) (n + 16) k0)) (JQ154 N x x_1 n k0))

def GQ80 (N : Nat) (x : Int) (k0 : Int -> Bool) : Bool :=
  (cond (decide (x >= 4294967296)) (JQ152 N x (Int.fdiv x (2 ^ 32)) 32 k0) (JQ152 N x x 0 k0))

def sQ80 (N : Nat) : TSQ80 := GQ80 N

abbrev TSQ117 : Type := List Int -> (Int -> Bool) -> Bool

def GQ117 (N : Nat) (SQ80 : TSQ80) (x : List Int) (k0 : Int -> Bool) : Bool :=
  (cond ((((List.length x) : Nat) : Int) == 0) (k0 0) ((fits .i64 ((((List.length x) : Nat) : Int) - 1)) && ((fits .i64 (64 * ((((List.length x) : Nat) : Int) - 1))) && ((fits .i64 ((((List.length x) : Nat) : Int) - 1)) && ((inR ((((List.length x) : Nat) : Int) - 1) (List.length x)) && (SQ80 (List.getD x (Int.toNat ((((List.length x) : Nat) : Int) - 1)) 0) (fun nr => ((fits .i64 ((64 * ((((List.length x) : Nat) : Int) - 1)) + nr)) && (k0 ((64 * ((((List.length x) : Nat) : Int) - 1)) + nr))))))))))

def sQ117 (N : Nat) : TSQ117 := GQ117 N (sQ80 N)

abbrev TSQ34 : Type := Bool -> List Int -> (Int -> Bool) -> Bool

def GQ34 (N : Nat) (SQ117 : TSQ117) (b : Bool) (b_1 : List Int) (k0 : Int -> Bool) : Bool :=
  (SQ117 b_1 (fun nr => (k0 nr)))

def sQ34 (N : Nat) : TSQ34 := GQ34 N (sQ117 N)

abbrev TSQ54 : Type := Int -> Bool -> (Bool -> List Int -> Bool) -> Bool

def GQ54 (N : Nat) (SQ112 : TSQ112) (SQ0 : TSQ0) (n : Int) (b : Bool) (k0 : Bool -> List Int -> Bool) : Bool :=
  (cond (decide (n < 0)) (SQ112 (IntKind.wrap .u64 (0 - (IntKind.wrap .u64 n))) (fun nsr => (SQ0 true nsr b (fun cr => (k0 cr nsr))))) (SQ112 (IntKind.wrap .u64 n) (fun nsr_1 => (SQ0 false nsr_1 b (fun cr_1 => (k0 cr_1 nsr_1))))))

def sQ54 (N : Nat) : TSQ54 := GQ54 N (sQ112 N) (sQ0 N)

abbrev TSQ55 : Type := Int -> (Bool -> List Int -> Bool) -> Bool

def GQ55 (N : Nat) (SQ54 : TSQ54) (n : Int) (k0 : Bool -> List Int -> Bool) : Bool :=
  (SQ54 n false (fun cr nsr => (k0 cr nsr)))

def sQ55 (N : Nat) : TSQ55 := GQ55 N (sQ54 N)

abbrev TSQ33 : Type := Bool -> Bool -> List Int -> (Bool -> List Int -> Bool) -> Bool

def GQ33 (N : Nat) (SQ65 : TSQ65) (SQ0 : TSQ0) (b b_1 : Bool) (b_2 : List Int) (k0 : Bool -> List Int -> Bool) : Bool :=
  (SQ65 b_2 (fun nsr => (SQ0 false nsr b (fun cr => (k0 cr nsr)))))

def sQ33 (N : Nat) : TSQ33 := GQ33 N (sQ65 N) (sQ0 N)

abbrev TSQ39 : Type := Bool -> Nat -> Nat -> Bool -> List Int -> (Bool -> Bool) -> Bool

def GQ39 (N : Nat) (neg : Bool) (abs_0 abs_1 : Nat) (b : Bool) (b_1 : List Int) (k0 : Bool -> Bool) : Bool :=
  (cond (neg == true) (k0 (decide (((abs_1 : Nat) : Int) > 0))) (k0 false))

def sQ39 (N : Nat) : TSQ39 := GQ39 N

abbrev TSQ19 : Type := Bool -> Bool -> List Int -> Bool -> List Int -> (Bool -> List Int -> Bool) -> Bool

def stQ156 (N : Nat) (SQ1 : TSQ1) (SQ39 : TSQ39) (t22 : Int) (z x : Bool) (x_1 : List Int) (y : Bool) (y_1 : List Int) (e0 : List Int -> Bool) : (Int × List Int) -> ((Int × List Int) -> Bool) -> Bool := fun v_ K => match v_ with
  | (t23, r) => (cond (decide (t23 < t22)) ((inR t23 (List.length x_1)) && ((inR t23 (List.length y_1)) && ((inR t23 (List.length r)) && ((decide ((Int.toNat t23) < (List.length r))) && ((fits .i64 (t23 + 1)) && (K ((t23 + 1), (List.set r (Int.toNat t23) (bitsN .and .u64 (List.getD x_1 (Int.toNat t23) 0) (List.getD y_1 (Int.toNat t23) 0)))))))))) (e0 r))

def GQ19 (N : Nat) (SQ1 : TSQ1) (SQ39 : TSQ39) (b b_1 : Bool) (b_2 : List Int) (b_3 : Bool) (b_4 : List Int) (k0 : Bool -> List Int -> Bool) : Bool :=
  ((mkOk 8 (imm false (((List.length b_2) : Nat) : Int) (((List.length b_4) : Nat) : Int)) (imm false (((List.length b_2) : Nat) : Int) (((List.length b_4) : Nat) : Int))) && (iterG N (stQ156 N SQ1 SQ39 (((List.length (List.replicate (Int.toNat (imm false (((List.length b_2) : Nat) : Int) (((List.length b_4) : Nat) : Int))) (0 : Int))) : Nat) : Int) b b_1 b_2 b_3 b_4 (fun r_1 => (SQ1 r_1 (fun mr mr_1 => (SQ39 false mr mr_1 b r_1 (fun cr => ((decide ((mr + mr_1) <= (List.length r_1))) && (k0 cr (List.take mr_1 (List.drop mr r_1)))))))))) (0, (List.replicate (Int.toNat (imm false (((List.length b_2) : Nat) : Int) (((List.length b_4) : Nat) : Int))) (0 : Int)))))

def sQ19 (N : Nat) : TSQ19 := GQ19 N (sQ1 N) (sQ39 N)

abbrev TSQ144 : Type := List Int -> (Int -> Bool) -> Bool

def GQ144 (N : Nat) (SQ14 : TSQ14) (x : List Int) (k0 : Int -> Bool) : Bool :=
  (SQ14 x 0 (fun nr => (k0 nr)))

def sQ144 (N : Nat) : TSQ144 := GQ144 N (sQ14 N)

abbrev TSQ35 : Type := Bool -> List Int -> (Int -> Bool) -> Bool

def GQ35 (N : Nat) (SQ144 : TSQ144) (b : Bool) (b_1 : List Int) (k0 : Int -> Bool) : Bool :=
  (SQ144 b_1 (fun nr => (k0 nr)))

def sQ35 (N : Nat) : TSQ35 := GQ35 N (sQ144 N)

abbrev TSQ9 : Type := Int -> Bool -> List Int -> (Bool -> Int -> Int -> Bool) -> (Bool -> Int -> Int -> List Int -> Bool) -> Bool

def stQ157 (N : Nat) (SQ17 : TSQ17) (SQ4 : TSQ4) (SQ34 : TSQ34) (SQ55 : TSQ55) (SQ33 : TSQ33) (SQ19 : TSQ19) (SQ35 : TSQ35) (SQ11 : TSQ11) (b0_2 : Bool) (b0_3 : List Int) (t2_2 : Bool) (t2_3 : Int) (d_2 : Bool) (d_3 : Int) (mask_2 : Bool) (mask_3 : List Int) (e0 : List Int -> Bool) : (Bool × List Int × List Int) -> ((Bool × List Int × List Int) -> Bool) -> Bool := fun v_ K => match v_ with
  | (m_2, m_3, b5) => (SQ4 m_2 m_3 (fun nr_6 => (cond (nr_6 != 0) (SQ19 false m_2 m_3 mask_2 mask_3 (fun cr_5 nsr_5 => (SQ35 cr_5 nsr_5 (fun nr_7 => ((decide ((List.length (b5 ++ [(IntKind.wrap .u32 nr_7)])) * 4 <= 140737488355328)) && (SQ11 32 m_2 m_3 (fun cr_6 nsr_6 => (K (cr_6, nsr_6, (b5 ++ [(IntKind.wrap .u32 nr_7)])))))))))) (e0 b5))))

def GQ9 (N : Nat) (SQ17 : TSQ17) (SQ4 : TSQ4) (SQ34 : TSQ34) (SQ55 : TSQ55) (SQ33 : TSQ33) (SQ19 : TSQ19) (SQ35 : TSQ35) (SQ11 : TSQ11) (x : Int) (b : Bool) (b_1 : List Int) (k0 : Bool -> Int -> Int -> Bool) (k1 : Bool -> Int -> Int -> List Int -> Bool) : Bool :=
  (SQ17 x b b_1 (fun nr cr nsr => (SQ4 cr nsr (fun nr_1 => (cond (nr_1 == 0) (k0 false 0 0) (SQ34 cr nsr (fun nr_2 => (cond ((decide (nr_2 > 65536)) == false) (cond ((decide (nr > 100000)) == false) (cond (decide (nr < (-100000))) (k0 false 0 2) (SQ4 cr nsr (fun nr_3 => (SQ55 4294967295 (fun cr_1 nsr_1 => (SQ33 false cr nsr (fun cr_2 nsr_2 => (iterG N (stQ157 N SQ17 SQ4 SQ34 SQ55 SQ33 SQ19 SQ35 SQ11 b b_1 false 0 (decide (nr_3 < 0)) nr cr_1 nsr_1 (fun b3 => (k1 (decide (nr_3 < 0)) nr 0 b3))) (cr_2, nsr_2, []))))))))) (k0 false 0 2)) (k0 false 0 2)))))))))

def sQ9 (N : Nat) : TSQ9 := GQ9 N (sQ17 N) (sQ4 N) (sQ34 N) (sQ55 N) (sQ33 N) (sQ19 N) (sQ35 N) (sQ11 N)

abbrev TSQ72 : Type := List Fl -> List Fl -> (Bool -> Int -> Int -> Bool) -> (Bool -> Int -> Int -> List Int -> Bool) -> Bool

def st_dyad_Dot_0 (N : Nat) (SQ92 : TSQ92) (SQ127 : TSQ127) (SQ13 : TSQ13) (SQ15 : TSQ15) (SQ5 : TSQ5) (SQ9 : TSQ9) (b_2 t26_1 : List Fl) (t27_1 : Int) (t4_2 : Bool) (t4_3 : Int) (e0 : Int -> Bool -> List Int -> Bool) : (Int × Int × Bool × List Int) -> ((Int × Int × Bool × List Int) -> Bool) -> Bool := fun v_ K => match v_ with
  | (t28_1, s_1, b2_1, b2_2) => (cond (decide (t28_1 < t27_1)) ((inR t28_1 (List.length t26_1)) && (SQ127 (List.getD t26_1 (Int.toNat t28_1) none) (fun nr_3 cr_5 nsr_4 => ((inR t28_1 (List.length b_2)) && (SQ127 (List.getD b_2 (Int.toNat t28_1) none) (fun nr_4 cr_6 nsr_5 => (SQ13 nr_3 nr_4 cr_5 nsr_4 cr_6 nsr_5 (fun nr_5 cr_7 nsr_6 => (SQ5 s_1 nr_5 b2_1 b2_2 cr_7 nsr_6 ((fits .i64 (t28_1 + 1)) && (K ((t28_1 + 1), nr_5, cr_7, nsr_6))) ((fits .i64 (t28_1 + 1)) && (K ((t28_1 + 1), s_1, b2_1, b2_2))) (fun nr_6 cr_8 nsr_7 => ((fits .i64 (t28_1 + 1)) && (K ((t28_1 + 1), nr_6, cr_8, nsr_7))))))))))))) (e0 s_1 b2_1 b2_2))

def GQ72 (N : Nat) (SQ92 : TSQ92) (SQ127 : TSQ127) (SQ13 : TSQ13) (SQ15 : TSQ15) (SQ5 : TSQ5) (SQ9 : TSQ9) (a b : List Fl) (k0 : Bool -> Int -> Int -> Bool) (k1 : Bool -> Int -> Int -> List Int -> Bool) : Bool :=
  (cond ((((List.length a) : Nat) : Int) != (((List.length b) : Nat) : Int)) (k0 false 0 3) (SQ92 a (fun cr => (cond ((!cr) == false) (SQ92 b (fun cr_1 => (cond (!cr_1) (k0 false 0 4) (iterG N (st_dyad_Dot_0 N SQ92 SQ127 SQ13 SQ15 SQ5 SQ9 b a (((List.length a) : Nat) : Int) false 0 (fun s_2 b2_3 b2_4 => (SQ9 s_2 b2_3 b2_4 (fun cr_9 nr_7 nr_8 => (k0 cr_9 nr_7 nr_8)) (fun cr_10 nr_9 nr_10 nsr_8 => (k1 cr_10 nr_9 nr_10 nsr_8))))) (0, 0, false, []))))) (k0 false 0 4)))))

def sQ72 (N : Nat) : TSQ72 := GQ72 N (sQ92 N) (sQ127 N) (sQ13 N) (sQ15 N) (sQ5 N) (sQ9 N)

abbrev TSQ111 : Type := Bool -> List Int -> Int -> (Bool -> Bool) -> Bool

def GQ111 (N : Nat) (d_0 : Bool) (d_1 : List Int) (d_2 : Int) (k0 : Bool -> Bool) : Bool :=
  (cond ((((List.length d_1) : Nat) : Int) == 0) (cond ((!d_0) == true) (k0 (d_2 == 0)) (k0 false)) (cond ((decide ((((List.length d_1) : Nat) : Int) <= 2048)) == true) ((fits .i64 ((((List.length d_1) : Nat) : Int) - 1)) && ((inR ((((List.length d_1) : Nat) : Int) - 1) (List.length d_1)) && (cond (((List.getD d_1 (Int.toNat ((((List.length d_1) : Nat) : Int) - 1)) 0) != 0) == true) ((inR 0 (List.length d_1)) && (cond (((Int.tmod (List.getD d_1 0 0) 2) == 1) == true) (cond ((decide (d_2 >= (-100000))) == true) (k0 (decide (d_2 <= 100000))) (k0 false)) (k0 false))) (k0 false)))) (k0 false)))

def sQ111 (N : Nat) : TSQ111 := GQ111 N

abbrev TSQ42 : Type := Int -> Bool -> (Bool -> List Int -> Bool) -> Bool

def GQ42 (N : Nat) (SQ89 : TSQ89) (SQ0 : TSQ0) (n : Int) (b : Bool) (k0 : Bool -> List Int -> Bool) : Bool :=
  (SQ89 [] n (fun nsr => (SQ0 b nsr b (fun cr => (k0 cr nsr)))))

def sQ42 (N : Nat) : TSQ42 := GQ42 N (sQ89 N) (sQ0 N)

abbrev TSQ40 : Type := Bool -> Nat -> Nat -> Bool -> List Int -> List Int -> (Bool -> Bool) -> Bool

def GQ40 (N : Nat) (neg : Bool) (abs_0 abs_1 : Nat) (b : Bool) (b_1 b_2 : List Int) (k0 : Bool -> Bool) : Bool :=
  (cond (neg == true) (k0 (decide (((abs_1 : Nat) : Int) > 0))) (k0 false))

def sQ40 (N : Nat) : TSQ40 := GQ40 N

abbrev TSQ26 : Type := Bool -> List Int -> Bool -> List Int -> (Bool -> List Int -> Bool) -> Bool

def stQ158 (N : Nat) (SQ14 : TSQ14) (SQ1 : TSQ1) (SQ40 : TSQ40) (t22 : Int) (z : Bool) (z_1 : List Int) (y : Bool) (y_1 : List Int) (e0 : List Int -> Bool) : (Int × List Int) -> ((Int × List Int) -> Bool) -> Bool := fun v_ K => match v_ with
  | (t23, r) => (cond (decide (t23 < t22)) (SQ14 z_1 t23 (fun nr => (SQ14 y_1 t23 (fun nr_1 => ((inR t23 (List.length r)) && ((decide ((Int.toNat t23) < (List.length r))) && ((fits .i64 (t23 + 1)) && (K ((t23 + 1), (List.set r (Int.toNat t23) (bitsN .or .u64 nr nr_1))))))))))) (e0 r))

def GQ26 (N : Nat) (SQ14 : TSQ14) (SQ1 : TSQ1) (SQ40 : TSQ40) (b : Bool) (b_1 : List Int) (b_2 : Bool) (b_3 : List Int) (k0 : Bool -> List Int -> Bool) : Bool :=
  ((mkOk 8 (imm true (((List.length b_1) : Nat) : Int) (((List.length b_3) : Nat) : Int)) (imm true (((List.length b_1) : Nat) : Int) (((List.length b_3) : Nat) : Int))) && (iterG N (stQ158 N SQ14 SQ1 SQ40 (((List.length (List.replicate (Int.toNat (imm true (((List.length b_1) : Nat) : Int) (((List.length b_3) : Nat) : Int))) (0 : Int))) : Nat) : Int) b b_1 b_2 b_3 (fun r_1 => (SQ1 r_1 (fun mr mr_1 => (SQ40 false mr mr_1 b b_1 r_1 (fun cr => ((decide ((mr + mr_1) <= (List.length r_1))) && (k0 cr (List.take mr_1 (List.drop mr r_1)))))))))) (0, (List.replicate (Int.toNat (imm true (((List.length b_1) : Nat) : Int) (((List.length b_3) : Nat) : Int))) (0 : Int)))))

def sQ26 (N : Nat) : TSQ26 := GQ26 N (sQ14 N) (sQ1 N) (sQ40 N)

abbrev TSQ43 : Type := Int -> Bool -> List Int -> (Bool -> List Int -> Bool) -> Bool

def GQ43 (N : Nat) (SQ89 : TSQ89) (SQ28 : TSQ28) (n : Int) (b : Bool) (b_1 : List Int) (k0 : Bool -> List Int -> Bool) : Bool :=
  (SQ89 b_1 n (fun nsr => (SQ28 b nsr b b_1 (fun cr => (k0 cr nsr)))))

def sQ43 (N : Nat) : TSQ43 := GQ43 N (sQ89 N) (sQ28 N)

abbrev TSQ95 : Type := Bool -> List Int -> Int -> (Bool -> List Int -> Bool) -> Bool

def st_dyad_take_0 (N : Nat) (SQ42 : TSQ42) (SQ55 : TSQ55) (SQ26 : TSQ26) (SQ43 : TSQ43) (SQ22 : TSQ22) (d_5 : Bool) (d_6 : List Int) (d_7 : Int) (t2_2 : Value) (t2_3 : Int) (e0 : Bool -> List Int -> Bool) : (Int × Bool × List Int) -> ((Int × Bool × List Int) -> Bool) -> Bool := fun v_ K => match v_ with
  | (i_1, n_1, n_2) => (cond (decide (i_1 >= 0)) (SQ43 32 n_1 n_2 (fun cr_3 nsr_3 => ((inR i_1 (List.length d_6)) && ((fits .i64 (List.getD d_6 (Int.toNat i_1) 0)) && (SQ55 (List.getD d_6 (Int.toNat i_1) 0) (fun cr_4 nsr_4 => (SQ26 cr_3 nsr_3 cr_4 nsr_4 (fun cr_5 nsr_5 => ((fits .i64 (i_1 - 1)) && (K ((i_1 - 1), cr_5, nsr_5))))))))))) (e0 n_1 n_2))

def GQ95 (N : Nat) (SQ42 : TSQ42) (SQ55 : TSQ55) (SQ26 : TSQ26) (SQ43 : TSQ43) (SQ22 : TSQ22) (d_0 : Bool) (d_1 : List Int) (d_2 : Int) (k0 : Bool -> List Int -> Bool) : Bool :=
  ((fits .i64 ((((List.length d_1) : Nat) : Int) - 1)) && (iterG N (st_dyad_take_0 N SQ42 SQ55 SQ26 SQ43 SQ22 d_0 d_1 d_2 (.pointer none) 0 (fun n_3 n_4 => (cond d_0 (SQ22 n_3 n_4 (fun cr_6 nsr_6 => (k0 cr_6 nsr_6))) (k0 n_3 n_4)))) (((((List.length d_1) : Nat) : Int) - 1), false, [])))

def sQ95 (N : Nat) : TSQ95 := GQ95 N (sQ42 N) (sQ55 N) (sQ26 N) (sQ43 N) (sQ22 N)

abbrev TSQ38 : Type := Bool -> Bool -> List Int -> (Bool -> List Int -> Bool) -> Bool

def GQ38 (N : Nat) (SQ65 : TSQ65) (SQ0 : TSQ0) (b b_1 : Bool) (b_2 : List Int) (k0 : Bool -> List Int -> Bool) : Bool :=
  (SQ65 b_2 (fun nsr => (SQ0 (!b_1) nsr b (fun cr => (k0 cr nsr)))))

def sQ38 (N : Nat) : TSQ38 := GQ38 N (sQ65 N) (sQ0 N)

abbrev TSQ62 : Type := Int -> Int -> Bool -> List Int -> Bool -> List Int -> (Int -> Bool -> List Int -> Bool) -> (Bool) -> Bool

def GQ62 (N : Nat) (SQ38 : TSQ38) (SQ5 : TSQ5) (x y : Int) (b : Bool) (b_1 : List Int) (b_2 : Bool) (b_3 : List Int) (k0 : Int -> Bool -> List Int -> Bool) (k1 : Bool) : Bool :=
  (SQ38 false b_2 b_3 (fun cr nsr => (SQ5 x y b b_1 cr nsr (k0 y cr nsr) k1 (fun nr cr_1 nsr_1 => (k0 nr cr_1 nsr_1)))))

def sQ62 (N : Nat) : TSQ62 := GQ62 N (sQ38 N) (sQ5 N)

abbrev TSQ103 : Type := Bool -> List Int -> Int -> Bool -> List Int -> Int -> (Bool -> Int -> Int -> Bool) -> (Bool -> Int -> Int -> List Int -> Bool) -> Bool

def GQ103 (N : Nat) (SQ111 : TSQ111) (SQ95 : TSQ95) (SQ62 : TSQ62) (SQ9 : TSQ9) (a_0 : Bool) (a_1 : List Int) (a_2 : Int) (b_0 : Bool) (b_1 : List Int) (b_2 : Int) (k0 : Bool -> Int -> Int -> Bool) (k1 : Bool -> Int -> Int -> List Int -> Bool) : Bool :=
  (SQ111 a_0 a_1 a_2 (fun cr => (cond ((!cr) == false) (SQ111 b_0 b_1 b_2 (fun cr_1 => (cond (!cr_1) (k0 false 0 30) (SQ95 a_0 a_1 a_2 (fun cr_2 nsr => (SQ95 b_0 b_1 b_2 (fun cr_3 nsr_1 => (SQ62 a_2 b_2 cr_2 nsr cr_3 nsr_1 (fun nr cr_4 nsr_2 => (SQ9 nr cr_4 nsr_2 (fun cr_5 nr_1 nr_2 => (k0 cr_5 nr_1 nr_2)) (fun cr_6 nr_3 nr_4 nsr_3 => (k1 cr_6 nr_3 nr_4 nsr_3)))) (SQ9 a_2 cr_2 nsr (fun cr_7 nr_5 nr_6 => (k0 cr_7 nr_5 nr_6)) (fun cr_8 nr_7 nr_8 nsr_4 => (k1 cr_8 nr_7 nr_8 nsr_4))))))))))) (k0 false 0 30))))

def sQ103 (N : Nat) : TSQ103 := GQ103 N (sQ111 N) (sQ95 N) (sQ62 N) (sQ9 N)

abbrev TSQ73 : Type := Bool -> List Int -> Int -> Bool -> List Int -> Int -> (Bool -> Int -> Int -> Bool) -> (Bool -> Int -> Int -> List Int -> Bool) -> Bool

def GQ73 (N : Nat) (SQ103 : TSQ103) (a_0 : Bool) (a_1 : List Int) (a_2 : Int) (b_0 : Bool) (b_1 : List Int) (b_2 : Int) (k0 : Bool -> Int -> Int -> Bool) (k1 : Bool -> Int -> Int -> List Int -> Bool) : Bool :=
  (SQ103 a_0 a_1 a_2 b_0 b_1 b_2 (fun cr nr nr_1 => (k0 cr nr nr_1)) (fun cr_1 nr_2 nr_3 nsr => (k1 cr_1 nr_2 nr_3 nsr)))

def sQ73 (N : Nat) : TSQ73 := GQ73 N (sQ103 N)

abbrev TSQ36 : Type := Bool -> List Int -> Int -> Bool -> List Int -> Int -> (Int -> Int -> Bool) -> Bool

def GQ36 (N : Nat) (SQ111 : TSQ111) (SQ95 : TSQ95) (SQ38 : TSQ38) (SQ5 : TSQ5) (SQ4 : TSQ4) (a_0 : Bool) (a_1 : List Int) (a_2 : Int) (b_0 : Bool) (b_1 : List Int) (b_2 : Int) (k0 : Int -> Int -> Bool) : Bool :=
  (SQ111 a_0 a_1 a_2 (fun cr => (cond ((!cr) == false) (SQ111 b_0 b_1 b_2 (fun cr_1 => (cond (!cr_1) (k0 0 30) (SQ95 a_0 a_1 a_2 (fun cr_2 nsr => (SQ95 b_0 b_1 b_2 (fun cr_3 nsr_1 => (SQ38 false cr_3 nsr_1 (fun cr_4 nsr_2 => (SQ5 a_2 b_2 cr_2 nsr cr_4 nsr_2 (SQ4 cr_4 nsr_2 (fun nr => (k0 nr 0))) (SQ4 cr_2 nsr (fun nr_1 => (k0 nr_1 0))) (fun nr_2 cr_5 nsr_3 => (SQ4 cr_5 nsr_3 (fun nr_3 => (k0 nr_3 0)))))))))))))) (k0 0 30))))

def sQ36 (N : Nat) : TSQ36 := GQ36 N (sQ111 N) (sQ95 N) (sQ38 N) (sQ5 N) (sQ4 N)

abbrev TSQ71 : Type := Fl -> Fl -> Fl -> Fl -> (Bool -> Bool) -> Bool

def JQ169 (N : Nat) (SQ7 : TSQ7) (SQ53 : TSQ53) (SQ72 : TSQ72) (SQ73 : TSQ73) (SQ36 : TSQ36) (q_0 q_1 q_2 q_3 : Fl) (b7 : List Int) (off_6 : Bool) (off_7 : Int) (k0 : Bool -> Bool) : Bool :=
  (SQ36 false b7 off_7 false [1] (-48) (fun nr_18 nr_19 => (cond ((nr_19 == 0) == true) (k0 (decide (nr_18 <= 0))) (k0 false))))

def JQ168 (N : Nat) (SQ7 : TSQ7) (SQ53 : TSQ53) (SQ72 : TSQ72) (SQ73 : TSQ73) (SQ36 : TSQ36) (q_0 q_1 q_2 q_3 : Fl) (off_4 : Bool) (off_5 : Int) (k0 : Bool -> Bool) : Bool :=
  (SQ36 false [] off_5 false [1] (-48) (fun nr_16 nr_17 => (cond ((nr_17 == 0) == true) (k0 (decide (nr_16 <= 0))) (k0 false))))

def JQ160 (N : Nat) (SQ7 : TSQ7) (SQ53 : TSQ53) (SQ72 : TSQ72) (SQ73 : TSQ73) (SQ36 : TSQ36) (q_0 q_1 q_2 q_3 : Fl) (b3 : List Int) (n_2 : Bool) (n_3 : Int) (k0 : Bool -> Bool) : Bool :=
  (SQ73 n_2 b3 n_3 false [1] 0 (fun cr_5 nr_12 nr_13 => (cond (nr_13 != 0) (k0 false) (JQ168 N SQ7 SQ53 SQ72 SQ73 SQ36 q_0 q_1 q_2 q_3 cr_5 nr_12 k0))) (fun cr_6 nr_14 nr_15 nsr_2 => (cond (nr_15 != 0) (k0 false) (JQ169 N SQ7 SQ53 SQ72 SQ73 SQ36 q_0 q_1 q_2 q_3 nsr_2 cr_6 nr_14 k0))))

def JQ167 (N : Nat) (SQ7 : TSQ7) (SQ53 : TSQ53) (SQ72 : TSQ72) (SQ73 : TSQ73) (SQ36 : TSQ36) (q_0 q_1 q_2 q_3 : Fl) (b6 : List Int) (off_2 : Bool) (off_3 : Int) (k0 : Bool -> Bool) : Bool :=
  (SQ36 false b6 off_3 false [1] (-48) (fun nr_10 nr_11 => (cond ((nr_11 == 0) == true) (k0 (decide (nr_10 <= 0))) (k0 false))))

def JQ166 (N : Nat) (SQ7 : TSQ7) (SQ53 : TSQ53) (SQ72 : TSQ72) (SQ73 : TSQ73) (SQ36 : TSQ36) (q_0 q_1 q_2 q_3 : Fl) (off : Bool) (off_1 : Int) (k0 : Bool -> Bool) : Bool :=
  (SQ36 false [] off_1 false [1] (-48) (fun nr_8 nr_9 => (cond ((nr_9 == 0) == true) (k0 (decide (nr_8 <= 0))) (k0 false))))

def JQ159 (N : Nat) (SQ7 : TSQ7) (SQ53 : TSQ53) (SQ72 : TSQ72) (SQ73 : TSQ73) (SQ36 : TSQ36) (q_0 q_1 q_2 q_3 : Fl) (n : Bool) (n_1 : Int) (k0 : Bool -> Bool) : Bool :=
  (SQ73 n [] n_1 false [1] 0 (fun cr_3 nr_4 nr_5 => (cond (nr_5 != 0) (k0 false) (JQ166 N SQ7 SQ53 SQ72 SQ73 SQ36 q_0 q_1 q_2 q_3 cr_3 nr_4 k0))) (fun cr_4 nr_6 nr_7 nsr_1 => (cond (nr_7 != 0) (k0 false) (JQ167 N SQ7 SQ53 SQ72 SQ73 SQ36 q_0 q_1 q_2 q_3 nsr_1 cr_4 nr_6 k0))))

def GQ71 (N : Nat) (SQ7 : TSQ7) (SQ53 : TSQ53) (SQ72 : TSQ72) (SQ73 : TSQ73) (SQ36 : TSQ36) (q_0 q_1 q_2 q_3 : Fl) (k0 : Bool -> Bool) : Bool :=
  (SQ7 q_0 q_1 q_2 q_3 (fun cr => (cond (!cr) (k0 false) (SQ53 q_0 q_1 q_2 q_3 (SQ72 [q_0, q_1, q_2, q_3] [q_0, q_1, q_2, q_3] (fun cr_1 nr nr_1 => (cond (nr_1 != 0) (k0 false) (JQ159 N SQ7 SQ53 SQ72 SQ73 SQ36 q_0 q_1 q_2 q_3 cr_1 nr k0))) (fun cr_2 nr_2 nr_3 nsr => (cond (nr_3 != 0) (k0 false) (JQ160 N SQ7 SQ53 SQ72 SQ73 SQ36 q_0 q_1 q_2 q_3 nsr cr_2 nr_2 k0))))))))

def sQ71 (N : Nat) : TSQ71 := GQ71 N (sQ7 N) (sQ53 N) (sQ72 N) (sQ73 N) (sQ36 N)

abbrev TSQ70 : Type := (Fl -> Fl -> Fl -> Fl -> Bool) -> Bool

def GQ70 (N : Nat) (k0 : Fl -> Fl -> Fl -> Fl -> Bool) : Bool :=
  (k0 (some 4611686018427387904) (some 0) (some 0) (some 0))

def sQ70 (N : Nat) : TSQ70 := GQ70 N

abbrev TSQ45 : Type := (Bool -> Bool) -> Bool

def GQ45 (N : Nat) (SQ85 : TSQ85) (SQ77 : TSQ77) (SQ110 : TSQ110) (SQ71 : TSQ71) (SQ70 : TSQ70) (k0 : Bool -> Bool) : Bool :=
  (SQ85 (some 0) (some 4613937818241073152) (some 4616189618054758400) (some 0) (fun xr xr_1 xr_2 xr_3 nr => (SQ77 (some 4602678819172646912) (some 4602678819172646912) (some 4602678819172646912) (some 4602678819172646912) (some 4607182418800017408) (some 4611686018427387904) (some 4613937818241073152) (fun xr_4 xr_5 xr_6 nr_1 => (SQ110 (some 0) (some 4607182418800017408) (some 0) (some 0) (some 0) (some 0) (some 4607182418800017408) (some 0) (fun xr_7 xr_8 xr_9 xr_10 nr_2 => (cond ((nr == 0) == true) (cond ((feq xr_1 (some 4603579539098121011)) == true) (cond ((feq xr_2 (some 4605380978949069210)) == true) (cond ((nr_1 == 0) == true) (cond ((feq xr_4 (some 4613937818241073152)) == true) (cond ((feq xr_5 (some 4607182418800017408)) == true) (cond ((feq xr_6 (some 4611686018427387904)) == true) (cond ((nr_2 == 0) == true) (cond ((feq xr_10 (some 4607182418800017408)) == true) (cond ((feq xr_7 (some 0)) == true) (SQ71 (some 4602678819172646912) (some 4602678819172646912) (some 4602678819172646912) (some 4602678819172646912) (fun cr => (cond (cr == true) (SQ70 (fun xr_11 xr_12 xr_13 xr_14 => (SQ71 xr_11 xr_12 xr_13 xr_14 (fun cr_1 => (k0 (!cr_1)))))) (k0 false)))) (k0 false)) (k0 false)) (k0 false)) (k0 false)) (k0 false)) (k0 false)) (k0 false)) (k0 false)) (k0 false)) (k0 false))))))))

def sQ45 (N : Nat) : TSQ45 := GQ45 N (sQ85 N) (sQ77 N) (sQ110 N) (sQ71 N) (sQ70 N)

abbrev TSQ52 : Type := Int -> (Fl -> Bool) -> Bool

def GQ52 (N : Nat) (SQ79 : TSQ79) (b : Int) (k0 : Fl -> Bool) : Bool :=
  (SQ79 b (fun xr => (k0 xr)))

def sQ52 (N : Nat) : TSQ52 := GQ52 N (sQ79 N)

abbrev TSQ41 : Type := Int -> Int -> Int -> Int -> (Fl -> Fl -> Fl -> Fl -> Bool) -> Bool

def GQ41 (N : Nat) (SQ52 : TSQ52) (q_0 q_1 q_2 q_3 : Int) (k0 : Fl -> Fl -> Fl -> Fl -> Bool) : Bool :=
  (SQ52 q_0 (fun xr => (SQ52 q_1 (fun xr_1 => (SQ52 q_2 (fun xr_2 => (SQ52 q_3 (fun xr_3 => (k0 xr xr_1 xr_2 xr_3)))))))))

def sQ41 (N : Nat) : TSQ41 := GQ41 N (sQ52 N)

abbrev TSQ46 : Type := Int -> Int -> Int -> (Fl -> Fl -> Fl -> Bool) -> Bool

def GQ46 (N : Nat) (SQ52 : TSQ52) (v_0 v_1 v_2 : Int) (k0 : Fl -> Fl -> Fl -> Bool) : Bool :=
  (SQ52 v_0 (fun xr => (SQ52 v_1 (fun xr_1 => (SQ52 v_2 (fun xr_2 => (k0 xr xr_1 xr_2)))))))

def sQ46 (N : Nat) : TSQ46 := GQ46 N (sQ52 N)

abbrev TSQ47 : Type := Fl -> Fl -> Fl -> (Bool -> Bool) -> Bool

def GQ47 (N : Nat) (S_m_Abs : TS_m_Abs) (SQ109 : TSQ109) (v_0 v_1 v_2 : Fl) (k0 : Bool -> Bool) : Bool :=
  (S_m_Abs v_0 (fun xr => (cond ((!feq v_0 (some 0)) == true) (SQ109 (some 4607182418800017408) (-400) (fun xr_1 => (cond ((fge xr xr_1) == true) (SQ109 (some 4607182418800017408) 400 (fun xr_2 => (cond (!(fle xr xr_2)) (k0 false) (S_m_Abs v_1 (fun xr_3 => (cond ((!feq v_1 (some 0)) == true) (SQ109 (some 4607182418800017408) (-400) (fun xr_4 => (cond ((fge xr_3 xr_4) == true) (SQ109 (some 4607182418800017408) 400 (fun xr_5 => (cond (!(fle xr_3 xr_5)) (k0 false) (S_m_Abs v_2 (fun xr_6 => (cond ((!feq v_2 (some 0)) == true) (SQ109 (some 4607182418800017408) (-400) (fun xr_7 => (cond ((fge xr_6 xr_7) == true) (SQ109 (some 4607182418800017408) 400 (fun xr_8 => (cond (!(fle xr_6 xr_8)) (k0 false) (k0 true)))) (k0 false)))) (k0 true))))))) (k0 false)))) (S_m_Abs v_2 (fun xr_9 => (cond ((!feq v_2 (some 0)) == true) (SQ109 (some 4607182418800017408) (-400) (fun xr_10 => (cond ((fge xr_9 xr_10) == true) (SQ109 (some 4607182418800017408) 400 (fun xr_11 => (cond (!(fle xr_9 xr_11)) (k0 false) (k0 true)))) (k0 false)))) (k0 true)))))))))) (k0 false)))) (S_m_Abs v_1 (fun xr_12 => (cond ((!feq v_1 (some 0)) == true) (SQ109 (some 4607182418800017408) (-400) (fun xr_13 => (cond ((fge xr_12 xr_13) == true) (SQ109 (some 4607182418800017408) 400 (fun xr_14 => (cond (!(fle xr_12 xr_14)) (k0 false) (S_m_Abs v_2 (fun xr_15 => (cond ((!feq v_2 (some 0)) == true) (SQ109 (some 4607182418800017408) (-400) (fun xr_16 => (cond ((fge xr_15 xr_16) == true) (SQ109 (some 4607182418800017408) 400 (fun xr_17 => (cond (!(fle xr_15 xr_17)) (k0 false) (k0 true)))) (k0 false)))) (k0 true))))))) (k0 false)))) (S_m_Abs v_2 (fun xr_18 => (cond ((!feq v_2 (some 0)) == true) (SQ109 (some 4607182418800017408) (-400) (fun xr_19 => (cond ((fge xr_18 xr_19) == true) (SQ109 (some 4607182418800017408) 400 (fun xr_20 => (cond (!(fle xr_18 xr_20)) (k0 false) (k0 true)))) (k0 false)))) (k0 true))))))))))

def sQ47 (N : Nat) : TSQ47 := GQ47 (N + 24) (s_m_Abs N) (sQ109 N)

abbrev TSQ113 : Type := (Int -> Bool -> Bool) -> Bool

def GQ113 (N : Nat) (k0 : Int -> Bool -> Bool) : Bool :=
  (k0 0 false)

def sQ113 (N : Nat) : TSQ113 := GQ113 N

abbrev TSQ135 : Type := Fl -> (Int -> Bool) -> Bool

def GQ135 (N : Nat) (SQ102 : TSQ102) (x : Fl) (k0 : Int -> Bool) : Bool :=
  (cond (!feq x x) (k0 9221120237041090561) (SQ102 x (fun nr => (k0 nr))))

def sQ135 (N : Nat) : TSQ135 := GQ135 N (sQ102 N)

abbrev TSQ101 : Type := Fl -> (Bool -> Int -> Int -> Bool) -> Bool

def GQ101 (N : Nat) (SQ135 : TSQ135) (x : Fl) (k0 : Bool -> Int -> Int -> Bool) : Bool :=
  (SQ135 x (fun nr => ((fits .i64 (Int.tmod (Int.fdiv nr (2 ^ 52)) 2048)) && (k0 ((Int.fdiv nr (2 ^ 63)) == 1) (Int.tmod (Int.fdiv nr (2 ^ 52)) 2048) (Int.tmod nr 4503599627370496)))))

def sQ101 (N : Nat) : TSQ101 := GQ101 N (sQ135 N)

abbrev TSQ123 : Type := Int -> Int -> (Int -> Int -> Bool) -> Bool

def st_z01_odd_0 (N : Nat) (e0 : Int -> Int -> Bool) : (Int × Int) -> ((Int × Int) -> Bool) -> Bool := fun v_ K => match v_ with
  | (m_1, e_1) => (cond ((Int.tmod m_1 2) == 0) ((fits .i64 (e_1 + 1)) && (K ((IntKind.wrap .u64 (Int.tdiv m_1 2)), (e_1 + 1)))) (e0 m_1 e_1))

def GQ123 (N : Nat) (m e : Int) (k0 : Int -> Int -> Bool) : Bool :=
  (cond (m == 0) (k0 0 0) (iterG N (st_z01_odd_0 N (fun m_2 e_2 => (k0 m_2 e_2))) (m, e)))

def sQ123 (N : Nat) : TSQ123 := GQ123 N

abbrev TSQ120 : Type := Fl -> (Bool -> Int -> Int -> Int -> Bool) -> Bool

def JQ161 (N : Nat) (SQ101 : TSQ101) (SQ123 : TSQ123) (x : Fl) (neg : Bool) (e f : Int) (k0 : Bool -> Int -> Int -> Int -> Bool) : Bool :=
  ((fits .i64 (e - 1074)) && (SQ123 f (e - 1074) (fun nr_2 nr_3 => (k0 neg nr_2 nr_3 0))))

def GQ120 (N : Nat) (SQ101 : TSQ101) (SQ123 : TSQ123) (x : Fl) (k0 : Bool -> Int -> Int -> Int -> Bool) : Bool :=
  (SQ101 x (fun cr nr nr_1 => (cond (nr == 2047) (k0 false 0 0 4) (cond (decide (nr > 0)) ((fits .i64 (nr - 1)) && (JQ161 N SQ101 SQ123 x cr (nr - 1) (IntKind.wrap .u64 (nr_1 + 4503599627370496)) k0)) (JQ161 N SQ101 SQ123 x cr nr nr_1 k0)))))

def sQ120 (N : Nat) : TSQ120 := GQ120 N (sQ101 N) (sQ123 N)

abbrev TSQ10 : Type := List Int -> (Nat -> Nat -> Bool) -> Bool

def stQ170 (N m_1 : Nat) (m_3 : List Int) (e0 : Nat -> Bool) : (Nat) -> ((Nat) -> Bool) -> Bool := fun v_ K => match v_ with
  | m_2 => (cond ((decide (((m_2 : Nat) : Int) > 0)) == true) ((fits .i64 (((m_2 : Nat) : Int) - 1)) && ((inR (((m_2 : Nat) : Int) - 1) m_2) && ((decide ((m_1 + (Int.toNat (((m_2 : Nat) : Int) - 1))) < (List.length m_3))) && (cond ((List.getD m_3 (m_1 + (Int.toNat (((m_2 : Nat) : Int) - 1))) 0) == 0) ((fits .i64 (((m_2 : Nat) : Int) - 1)) && ((decide (0 <= (((m_2 : Nat) : Int) - 1) /\ (((m_2 : Nat) : Int) - 1) <= ((m_2 : Nat) : Int))) && (K ((Int.toNat (((m_2 : Nat) : Int) - 1)) - 0)))) (e0 m_2))))) (e0 m_2))

def GQ10 (N : Nat) (b : List Int) (k0 : Nat -> Nat -> Bool) : Bool :=
  (iterG N (stQ170 N 0 b (fun m_4 => (k0 0 m_4))) (List.length b))

def sQ10 (N : Nat) : TSQ10 := GQ10 N

abbrev TSQ100 : Type := Int -> (List Int -> Bool) -> Bool

def GQ100 (N : Nat) (SQ10 : TSQ10) (n : Int) (k0 : List Int -> Bool) : Bool :=
  (SQ10 [(IntKind.wrap .u32 n), (IntKind.wrap .u32 (Int.fdiv n (2 ^ 32)))] (fun mr mr_1 => ((decide ((mr + mr_1) <= (List.length [(IntKind.wrap .u32 n), (IntKind.wrap .u32 (Int.fdiv n (2 ^ 32)))]))) && (k0 (List.take mr_1 (List.drop mr [(IntKind.wrap .u32 n), (IntKind.wrap .u32 (Int.fdiv n (2 ^ 32)))]))))))

def sQ100 (N : Nat) : TSQ100 := GQ100 N (sQ10 N)

abbrev TSQ141 : Type := List Int -> (List Int -> Bool) -> Bool

def st_z00_cut_0 (N : Nat) (e0 : List Int -> Bool) : (List Int) -> ((List Int) -> Bool) -> Bool := fun v_ K => match v_ with
  | m_1 => (cond ((decide ((((List.length m_1) : Nat) : Int) > 0)) == true) ((fits .i64 ((((List.length m_1) : Nat) : Int) - 1)) && ((inR ((((List.length m_1) : Nat) : Int) - 1) (List.length m_1)) && (cond ((List.getD m_1 (Int.toNat ((((List.length m_1) : Nat) : Int) - 1)) 0) == 0) ((fits .i64 ((((List.length m_1) : Nat) : Int) - 1)) && ((decide (0 <= ((((List.length m_1) : Nat) : Int) - 1) /\ ((((List.length m_1) : Nat) : Int) - 1) <= (((List.length m_1) : Nat) : Int))) && (K (List.drop 0 (List.take (Int.toNat ((((List.length m_1) : Nat) : Int) - 1)) m_1))))) (e0 m_1)))) (e0 m_1))

def GQ141 (N : Nat) (m : List Int) (k0 : List Int -> Bool) : Bool :=
  (iterG N (st_z00_cut_0 N (fun m_2 => (k0 m_2))) m)

def sQ141 (N : Nat) : TSQ141 := GQ141 N

abbrev TSQ37 : Type := Bool -> List Int -> Bool -> (Bool -> List Int -> Bool) -> Bool

def GQ37 (N : Nat) (SQ141 : TSQ141) (neg : Bool) (m : List Int) (b : Bool) (k0 : Bool -> List Int -> Bool) : Bool :=
  (SQ141 m (fun nsr => (cond (neg == true) (k0 (decide ((((List.length nsr) : Nat) : Int) > 0)) nsr) (k0 false nsr))))

def sQ37 (N : Nat) : TSQ37 := GQ37 N (sQ141 N)

abbrev TSQ64 : Type := Int -> Bool -> (Bool -> List Int -> Bool) -> Bool

def GQ64 (N : Nat) (SQ100 : TSQ100) (SQ37 : TSQ37) (n : Int) (b : Bool) (k0 : Bool -> List Int -> Bool) : Bool :=
  (SQ100 n (fun nsr => (SQ37 false nsr b (fun cr nsr_1 => (k0 cr nsr_1)))))

def sQ64 (N : Nat) : TSQ64 := GQ64 N (sQ100 N) (sQ37 N)

abbrev TSQ97 : Type := Bool -> Bool -> List Int -> List Int -> (Bool -> Nat -> Nat -> Bool) -> Bool

def GQ97 (N : Nat) (SQ10 : TSQ10) (neg b : Bool) (b_1 b_2 : List Int) (k0 : Bool -> Nat -> Nat -> Bool) : Bool :=
  (SQ10 b_2 (fun mr mr_1 => (cond (neg == true) (k0 (decide (((mr_1 : Nat) : Int) > 0)) mr mr_1) (k0 false mr mr_1))))

def sQ97 (N : Nat) : TSQ97 := GQ97 N (sQ10 N)

abbrev TSQ94 : Type := Bool -> List Int -> (Bool -> List Int -> Bool) -> Bool

def GQ94 (N : Nat) (SQ97 : TSQ97) (b : Bool) (b_1 : List Int) (k0 : Bool -> List Int -> Bool) : Bool :=
  ((decide ((List.length ([] ++ b_1)) * 4 <= 140737488355328)) && (SQ97 (!b) b b_1 ([] ++ b_1) (fun cr mr mr_1 => ((decide ((mr + mr_1) <= (List.length ([] ++ b_1)))) && (k0 cr (List.take mr_1 (List.drop mr ([] ++ b_1))))))))

def sQ94 (N : Nat) : TSQ94 := GQ94 N (sQ97 N)

abbrev TSQ118 : Type := Fl -> (Int -> Bool -> List Int -> Bool) -> Bool

def GQ118 (N : Nat) (SQ120 : TSQ120) (SQ64 : TSQ64) (SQ94 : TSQ94) (x : Fl) (k0 : Int -> Bool -> List Int -> Bool) : Bool :=
  (SQ120 x (fun cr nr nr_1 nr_2 => (SQ64 nr false (fun cr_1 nsr => (cond cr (SQ94 cr_1 nsr (fun cr_2 nsr_1 => (k0 nr_1 cr_2 nsr_1))) (k0 nr_1 cr_1 nsr))))))

def sQ118 (N : Nat) : TSQ118 := GQ118 N (sQ120 N) (sQ64 N) (sQ94 N)

abbrev TSQ91 : Type := List Int -> List Int -> (List Int -> Bool) -> Bool

def st_z00_times_2 (N : Nat) (SQ10 : TSQ10) (a_2 b_2 : List Int) (i_1 : Int) (e0 : Int -> List Int -> Bool) : (Int × Int × List Int) -> ((Int × Int × List Int) -> Bool) -> Bool := fun v_ K => match v_ with
  | (carry, k_, out_1) => (cond (decide (k_ < (((List.length b_2) : Nat) : Int))) ((inR i_1 (List.length a_2)) && ((inR k_ (List.length b_2)) && ((fits .i64 (i_1 + k_)) && ((inR (i_1 + k_) (List.length out_1)) && ((decide ((Int.toNat (i_1 + k_)) < (List.length out_1))) && ((fits .i64 (i_1 + k_)) && ((inR (i_1 + k_) (List.length out_1)) && ((decide ((Int.toNat (i_1 + k_)) < (List.length out_1))) && ((fits .i64 (k_ + 1)) && (K ((Int.fdiv (IntKind.wrap .u64 ((IntKind.wrap .u64 ((IntKind.wrap .u64 ((IntKind.wrap .u64 (List.getD a_2 (Int.toNat i_1) 0)) * (IntKind.wrap .u64 (List.getD b_2 (Int.toNat k_) 0)))) + (IntKind.wrap .u64 (List.getD out_1 (Int.toNat (i_1 + k_)) 0)))) + carry)) (2 ^ 32)), (k_ + 1), (List.set out_1 (Int.toNat (i_1 + k_)) (IntKind.wrap .u32 (IntKind.wrap .u64 ((IntKind.wrap .u64 ((IntKind.wrap .u64 ((IntKind.wrap .u64 (List.getD a_2 (Int.toNat i_1) 0)) * (IntKind.wrap .u64 (List.getD b_2 (Int.toNat k_) 0)))) + (IntKind.wrap .u64 (List.getD out_1 (Int.toNat (i_1 + k_)) 0)))) + carry))))))))))))))) (e0 carry out_1))

def st_z00_times_0 (N : Nat) (SQ10 : TSQ10) (a_1 b_1 : List Int) (e0 : List Int -> Bool) : (Int × List Int) -> ((Int × List Int) -> Bool) -> Bool := fun v_ K => match v_ with
  | (i, out) => (cond (decide (i < (((List.length a_1) : Nat) : Int))) (iterG N (st_z00_times_2 N SQ10 a_1 b_1 i (fun carry_1 out_2 => ((fits .i64 (i + (((List.length b_1) : Nat) : Int))) && ((inR (i + (((List.length b_1) : Nat) : Int)) (List.length out_2)) && ((decide ((Int.toNat (i + (((List.length b_1) : Nat) : Int))) < (List.length out_2))) && ((fits .i64 (i + 1)) && (K ((i + 1), (List.set out_2 (Int.toNat (i + (((List.length b_1) : Nat) : Int))) (IntKind.wrap .u32 carry_1)))))))))) (0, 0, out)) (e0 out))

def GQ91 (N : Nat) (SQ10 : TSQ10) (a b : List Int) (k0 : List Int -> Bool) : Bool :=
  ((fits .i64 ((((List.length a) : Nat) : Int) + (((List.length b) : Nat) : Int))) && ((mkOk 4 ((((List.length a) : Nat) : Int) + (((List.length b) : Nat) : Int)) ((((List.length a) : Nat) : Int) + (((List.length b) : Nat) : Int))) && (iterG N (st_z00_times_0 N SQ10 a b (fun out_3 => (SQ10 out_3 (fun mr mr_1 => ((decide ((mr + mr_1) <= (List.length out_3))) && (k0 (List.take mr_1 (List.drop mr out_3)))))))) (0, (List.replicate (Int.toNat ((((List.length a) : Nat) : Int) + (((List.length b) : Nat) : Int))) (0 : Int))))))

def sQ91 (N : Nat) : TSQ91 := GQ91 N (sQ10 N)

abbrev TSQ67 : Type := Bool -> Bool -> List Int -> Bool -> List Int -> (Bool -> List Int -> Bool) -> Bool

def GQ67 (N : Nat) (SQ91 : TSQ91) (SQ37 : TSQ37) (b b_1 : Bool) (b_2 : List Int) (b_3 : Bool) (b_4 : List Int) (k0 : Bool -> List Int -> Bool) : Bool :=
  (SQ91 b_2 b_4 (fun nsr => (SQ37 (b_1 != b_3) nsr b (fun cr nsr_1 => (k0 cr nsr_1)))))

def sQ67 (N : Nat) : TSQ67 := GQ67 N (sQ91 N) (sQ37 N)

abbrev TSQ2 : Type := Int -> Int -> Bool -> List Int -> Bool -> List Int -> (Int -> Bool -> List Int -> Bool) -> Bool

def GQ2 (N : Nat) (SQ67 : TSQ67) (x y : Int) (b : Bool) (b_1 : List Int) (b_2 : Bool) (b_3 : List Int) (k0 : Int -> Bool -> List Int -> Bool) : Bool :=
  (SQ67 false b b_1 b_2 b_3 (fun cr nsr => ((fits .i64 (x + y)) && (k0 (x + y) cr nsr))))

def sQ2 (N : Nat) : TSQ2 := GQ2 N (sQ67 N)

abbrev TSQ104 : Type := Bool -> (Int -> List Int -> Bool) -> Bool

def GQ104 (N : Nat) (b : Bool) (k0 : Int -> List Int -> Bool) : Bool :=
  (k0 0 [])

def sQ104 (N : Nat) : TSQ104 := GQ104 N

abbrev TSQ57 : Type := Bool -> List Int -> (Int -> Bool) -> Bool

def GQ57 (N : Nat) (b : Bool) (b_1 : List Int) (k0 : Int -> Bool) : Bool :=
  (cond ((((List.length b_1) : Nat) : Int) == 0) (k0 0) (cond b (k0 (-1)) (k0 1)))

def sQ57 (N : Nat) : TSQ57 := GQ57 N

abbrev TSQ131 : Type := List Int -> Int -> (List Int -> Bool) -> Bool

def st_z00_left_0 (N : Nat) (SQ10 : TSQ10) (m_1 : List Int) (w s : Int) (e0 : List Int -> Bool) : (Int × List Int) -> ((Int × List Int) -> Bool) -> Bool := fun v_ K => match v_ with
  | (i, out) => (cond (decide (i < (((List.length m_1) : Nat) : Int))) ((inR i (List.length m_1)) && ((decide (0 <= s)) && ((fits .i64 (w + i)) && ((inR (w + i) (List.length out)) && ((decide ((Int.toNat (w + i)) < (List.length out))) && ((inR (w + i) (List.length out)) && ((decide ((Int.toNat (w + i)) < (List.length out))) && ((fits .i64 (w + i)) && ((fits .i64 ((w + i) + 1)) && ((inR ((w + i) + 1) (List.length (List.set out (Int.toNat (w + i)) (bitsN .or .u32 (List.getD out (Int.toNat (w + i)) 0) (IntKind.wrap .u32 (IntKind.wrap .u64 ((IntKind.wrap .u64 (List.getD m_1 (Int.toNat i) 0)) * 2 ^ (min (Int.toNat s) 64)))))))) && ((decide ((Int.toNat ((w + i) + 1)) < (List.length (List.set out (Int.toNat (w + i)) (bitsN .or .u32 (List.getD out (Int.toNat (w + i)) 0) (IntKind.wrap .u32 (IntKind.wrap .u64 ((IntKind.wrap .u64 (List.getD m_1 (Int.toNat i) 0)) * 2 ^ (min (Int.toNat s) 64))))))))) && ((fits .i64 (i + 1)) && (K ((i + 1), (List.set (List.set out (Int.toNat (w + i)) (bitsN .or .u32 (List.getD out (Int.toNat (w + i)) 0) (IntKind.wrap .u32 (IntKind.wrap .u64 ((IntKind.wrap .u64 (List.getD m_1 (Int.toNat i) 0)) * 2 ^ (min (Int.toNat s) 64)))))) (Int.toNat ((w + i) + 1)) (IntKind.wrap .u32 (Int.fdiv (IntKind.wrap .u64 ((IntKind.wrap .u64 (List.getD m_1 (Int.toNat i) 0)) * 2 ^ (min (Int.toNat s) 64))) (2 ^ 32)))))))))))))))))) (e0 out))

def GQ131 (N : Nat) (SQ10 : TSQ10) (m : List Int) (n : Int) (k0 : List Int -> Bool) : Bool :=
  (cond ((((List.length m) : Nat) : Int) == 0) (k0 []) ((fits .i64 (IntKind.wrap .u64 (Int.tdiv n 32))) && ((fits .i64 ((IntKind.wrap .u64 (Int.tdiv n 32)) + (((List.length m) : Nat) : Int))) && ((fits .i64 (((IntKind.wrap .u64 (Int.tdiv n 32)) + (((List.length m) : Nat) : Int)) + 1)) && ((mkOk 4 (((IntKind.wrap .u64 (Int.tdiv n 32)) + (((List.length m) : Nat) : Int)) + 1) (((IntKind.wrap .u64 (Int.tdiv n 32)) + (((List.length m) : Nat) : Int)) + 1)) && (iterG N (st_z00_left_0 N SQ10 m (IntKind.wrap .u64 (Int.tdiv n 32)) (Int.tmod n 32) (fun out_1 => (SQ10 out_1 (fun mr mr_1 => ((decide ((mr + mr_1) <= (List.length out_1))) && (k0 (List.take mr_1 (List.drop mr out_1)))))))) (0, (List.replicate (Int.toNat (((IntKind.wrap .u64 (Int.tdiv n 32)) + (((List.length m) : Nat) : Int)) + 1)) (0 : Int)))))))))

def sQ131 (N : Nat) : TSQ131 := GQ131 N (sQ10 N)

abbrev TSQ82 : Type := Int -> Bool -> Bool -> List Int -> (Bool -> List Int -> Bool) -> Bool

def GQ82 (N : Nat) (SQ131 : TSQ131) (SQ37 : TSQ37) (n : Int) (b b_1 : Bool) (b_2 : List Int) (k0 : Bool -> List Int -> Bool) : Bool :=
  (SQ131 b_2 n (fun nsr => (SQ37 b_1 nsr b (fun cr nsr_1 => (k0 cr nsr_1)))))

def sQ82 (N : Nat) : TSQ82 := GQ82 N (sQ131 N) (sQ37 N)

abbrev TSQ27 : Type := Int -> Int -> Bool -> List Int -> (Bool) -> (Bool -> List Int -> Bool) -> Bool

def GQ27 (N : Nat) (SQ82 : TSQ82) (x e : Int) (b : Bool) (b_1 : List Int) (k0 : Bool) (k1 : Bool -> List Int -> Bool) : Bool :=
  (cond (decide (e >= x)) k0 ((fits .i64 (x - e)) && (SQ82 (IntKind.wrap .u64 (x - e)) false b b_1 (fun cr nsr => (k1 cr nsr)))))

def sQ27 (N : Nat) : TSQ27 := GQ27 N (sQ82 N)

abbrev TSQ132 : Type := List Int -> List Int -> (List Int -> Bool) -> Bool

def st_z00_plus_0 (N : Nat) (SQ10 : TSQ10) (a_1 b_1 : List Int) (e0 : Int -> List Int -> Bool) : (Int × Int × List Int) -> ((Int × Int × List Int) -> Bool) -> Bool := fun v_ K => match v_ with
  | (carry, i, out) => (cond (decide (i < (((List.length a_1) : Nat) : Int))) ((inR i (List.length a_1)) && (cond (decide (i < (((List.length b_1) : Nat) : Int))) ((inR i (List.length b_1)) && ((inR i (List.length out)) && ((decide ((Int.toNat i) < (List.length out))) && ((fits .i64 (i + 1)) && (K ((Int.fdiv (IntKind.wrap .u64 ((IntKind.wrap .u64 ((IntKind.wrap .u64 (List.getD a_1 (Int.toNat i) 0)) + carry)) + (IntKind.wrap .u64 (List.getD b_1 (Int.toNat i) 0)))) (2 ^ 32)), (i + 1), (List.set out (Int.toNat i) (IntKind.wrap .u32 (IntKind.wrap .u64 ((IntKind.wrap .u64 ((IntKind.wrap .u64 (List.getD a_1 (Int.toNat i) 0)) + carry)) + (IntKind.wrap .u64 (List.getD b_1 (Int.toNat i) 0)))))))))))) ((inR i (List.length out)) && ((decide ((Int.toNat i) < (List.length out))) && ((fits .i64 (i + 1)) && (K ((Int.fdiv (IntKind.wrap .u64 ((IntKind.wrap .u64 (List.getD a_1 (Int.toNat i) 0)) + carry)) (2 ^ 32)), (i + 1), (List.set out (Int.toNat i) (IntKind.wrap .u32 (IntKind.wrap .u64 ((IntKind.wrap .u64 (List.getD a_1 (Int.toNat i) 0)) + carry))))))))))) (e0 carry out))

def GQ132 (N : Nat) (SQ10 : TSQ10) (a b : List Int) (k0 : List Int -> Bool) : Bool :=
  (cond (decide ((((List.length a) : Nat) : Int) < (((List.length b) : Nat) : Int))) ((fits .i64 ((((List.length b) : Nat) : Int) + 1)) && ((mkOk 4 ((((List.length b) : Nat) : Int) + 1) ((((List.length b) : Nat) : Int) + 1)) && (iterG N (st_z00_plus_0 N SQ10 b a (fun carry_1 out_1 => ((inR (((List.length b) : Nat) : Int) (List.length out_1)) && ((decide ((Int.toNat (((List.length b) : Nat) : Int)) < (List.length out_1))) && (SQ10 (List.set out_1 (Int.toNat (((List.length b) : Nat) : Int)) (IntKind.wrap .u32 carry_1)) (fun mr mr_1 => ((decide ((mr + mr_1) <= (List.length (List.set out_1 (Int.toNat (((List.length b) : Nat) : Int)) (IntKind.wrap .u32 carry_1))))) && (k0 (List.take mr_1 (List.drop mr (List.set out_1 (Int.toNat (((List.length b) : Nat) : Int)) (IntKind.wrap .u32 carry_1)))))))))))) (0, 0, (List.replicate (Int.toNat ((((List.length b) : Nat) : Int) + 1)) (0 : Int)))))) ((fits .i64 ((((List.length a) : Nat) : Int) + 1)) && ((mkOk 4 ((((List.length a) : Nat) : Int) + 1) ((((List.length a) : Nat) : Int) + 1)) && (iterG N (st_z00_plus_0 N SQ10 a b (fun carry_2 out_2 => ((inR (((List.length a) : Nat) : Int) (List.length out_2)) && ((decide ((Int.toNat (((List.length a) : Nat) : Int)) < (List.length out_2))) && (SQ10 (List.set out_2 (Int.toNat (((List.length a) : Nat) : Int)) (IntKind.wrap .u32 carry_2)) (fun mr_2 mr_3 => ((decide ((mr_2 + mr_3) <= (List.length (List.set out_2 (Int.toNat (((List.length a) : Nat) : Int)) (IntKind.wrap .u32 carry_2))))) && (k0 (List.take mr_3 (List.drop mr_2 (List.set out_2 (Int.toNat (((List.length a) : Nat) : Int)) (IntKind.wrap .u32 carry_2)))))))))))) (0, 0, (List.replicate (Int.toNat ((((List.length a) : Nat) : Int) + 1)) (0 : Int)))))))

def sQ132 (N : Nat) : TSQ132 := GQ132 N (sQ10 N)

abbrev TSQ99 : Type := List Int -> List Int -> (Int -> Bool) -> Bool

def stQ163 (N : Nat) (a_1 b_1 : List Int) (e0 : Int -> Bool) (e1 : Bool) : (Int) -> ((Int) -> Bool) -> Bool := fun v_ K => match v_ with
  | i => (cond (decide (i >= 0)) ((inR i (List.length a_1)) && ((inR i (List.length b_1)) && (cond (decide ((List.getD a_1 (Int.toNat i) 0) < (List.getD b_1 (Int.toNat i) 0))) (e0 (-1)) ((inR i (List.length a_1)) && ((inR i (List.length b_1)) && (cond (decide ((List.getD a_1 (Int.toNat i) 0) > (List.getD b_1 (Int.toNat i) 0))) (e0 1) ((fits .i64 (i - 1)) && (K (i - 1))))))))) e1)

def GQ99 (N : Nat) (a b : List Int) (k0 : Int -> Bool) : Bool :=
  (cond ((((List.length a) : Nat) : Int) != (((List.length b) : Nat) : Int)) (cond (decide ((((List.length a) : Nat) : Int) < (((List.length b) : Nat) : Int))) (k0 (-1)) (k0 1)) ((fits .i64 ((((List.length a) : Nat) : Int) - 1)) && (iterG N (stQ163 N a b (fun t4 => (k0 t4)) (k0 0)) ((((List.length a) : Nat) : Int) - 1))))

def sQ99 (N : Nat) : TSQ99 := GQ99 N

abbrev TSQ121 : Type := List Int -> List Int -> (List Int -> Bool) -> Bool

def st_z00_minus_0 (N : Nat) (SQ10 : TSQ10) (a_1 b_1 : List Int) (e0 : List Int -> Bool) : (Int × Int × List Int) -> ((Int × Int × List Int) -> Bool) -> Bool := fun v_ K => match v_ with
  | (borrow, i, out) => (cond (decide (i < (((List.length a_1) : Nat) : Int))) (cond (decide (i < (((List.length b_1) : Nat) : Int))) ((inR i (List.length b_1)) && ((inR i (List.length a_1)) && (cond (decide ((IntKind.wrap .u64 (List.getD a_1 (Int.toNat i) 0)) < (IntKind.wrap .u64 (borrow + (IntKind.wrap .u64 (List.getD b_1 (Int.toNat i) 0)))))) ((inR i (List.length out)) && ((decide ((Int.toNat i) < (List.length out))) && ((fits .i64 (i + 1)) && (K (1, (i + 1), (List.set out (Int.toNat i) (IntKind.wrap .u32 (IntKind.wrap .u64 ((IntKind.wrap .u64 ((IntKind.wrap .u64 (List.getD a_1 (Int.toNat i) 0)) + 4294967296)) - (IntKind.wrap .u64 (borrow + (IntKind.wrap .u64 (List.getD b_1 (Int.toNat i) 0))))))))))))) ((inR i (List.length out)) && ((decide ((Int.toNat i) < (List.length out))) && ((fits .i64 (i + 1)) && (K (0, (i + 1), (List.set out (Int.toNat i) (IntKind.wrap .u32 (IntKind.wrap .u64 ((IntKind.wrap .u64 (List.getD a_1 (Int.toNat i) 0)) - (IntKind.wrap .u64 (borrow + (IntKind.wrap .u64 (List.getD b_1 (Int.toNat i) 0)))))))))))))))) ((inR i (List.length a_1)) && (cond (decide ((IntKind.wrap .u64 (List.getD a_1 (Int.toNat i) 0)) < borrow)) ((inR i (List.length out)) && ((decide ((Int.toNat i) < (List.length out))) && ((fits .i64 (i + 1)) && (K (1, (i + 1), (List.set out (Int.toNat i) (IntKind.wrap .u32 (IntKind.wrap .u64 ((IntKind.wrap .u64 ((IntKind.wrap .u64 (List.getD a_1 (Int.toNat i) 0)) + 4294967296)) - borrow))))))))) ((inR i (List.length out)) && ((decide ((Int.toNat i) < (List.length out))) && ((fits .i64 (i + 1)) && (K (0, (i + 1), (List.set out (Int.toNat i) (IntKind.wrap .u32 (IntKind.wrap .u64 ((IntKind.wrap .u64 (List.getD a_1 (Int.toNat i) 0)) - borrow)))))))))))) (e0 out))

def GQ121 (N : Nat) (SQ10 : TSQ10) (a b : List Int) (k0 : List Int -> Bool) : Bool :=
  ((mkOk 4 (((List.length a) : Nat) : Int) (((List.length a) : Nat) : Int)) && (iterG N (st_z00_minus_0 N SQ10 a b (fun out_1 => (SQ10 out_1 (fun mr mr_1 => ((decide ((mr + mr_1) <= (List.length out_1))) && (k0 (List.take mr_1 (List.drop mr out_1)))))))) (0, 0, (List.replicate (Int.toNat (((List.length a) : Nat) : Int)) (0 : Int)))))

def sQ121 (N : Nat) : TSQ121 := GQ121 N (sQ10 N)

abbrev TSQ68 : Type := Bool -> Bool -> Bool -> List Int -> Bool -> List Int -> (Bool -> List Int -> Bool) -> Bool

def GQ68 (N : Nat) (SQ132 : TSQ132) (SQ37 : TSQ37) (SQ99 : TSQ99) (SQ121 : TSQ121) (turn b b_1 : Bool) (b_2 : List Int) (b_3 : Bool) (b_4 : List Int) (k0 : Bool -> List Int -> Bool) : Bool :=
  (cond (b_1 == (b_3 != turn)) (SQ132 b_2 b_4 (fun nsr => (SQ37 (b_3 != turn) nsr b (fun cr nsr_1 => (k0 cr nsr_1))))) (SQ99 b_2 b_4 (fun nr => (cond (decide (nr >= 0)) (SQ121 b_2 b_4 (fun nsr_2 => (SQ37 b_1 nsr_2 b (fun cr_1 nsr_3 => (k0 cr_1 nsr_3))))) (SQ121 b_4 b_2 (fun nsr_4 => (SQ37 (b_3 != turn) nsr_4 b (fun cr_2 nsr_5 => (k0 cr_2 nsr_5)))))))))

def sQ68 (N : Nat) : TSQ68 := GQ68 N (sQ132 N) (sQ37 N) (sQ99 N) (sQ121 N)

abbrev TSQ44 : Type := Bool -> Bool -> List Int -> Bool -> List Int -> (Bool -> List Int -> Bool) -> Bool

def GQ44 (N : Nat) (SQ68 : TSQ68) (b b_1 : Bool) (b_2 : List Int) (b_3 : Bool) (b_4 : List Int) (k0 : Bool -> List Int -> Bool) : Bool :=
  (SQ68 false b b_1 b_2 b_3 b_4 (fun cr nsr => (k0 cr nsr)))

def sQ44 (N : Nat) : TSQ44 := GQ44 N (sQ68 N)

abbrev TSQ18 : Type := Int -> Int -> Bool -> Bool -> List Int -> (List Int -> Bool) -> (List Int -> Bool) -> (Int -> List Int -> Bool -> List Int -> Bool) -> Bool

def GQ18 (N : Nat) (SQ104 : TSQ104) (SQ57 : TSQ57) (SQ27 : TSQ27) (SQ44 : TSQ44) (x y : Int) (b b_1 : Bool) (b_2 : List Int) (k0 : List Int -> Bool) (k1 : List Int -> Bool) (k2 : Int -> List Int -> Bool -> List Int -> Bool) : Bool :=
  (SQ104 b (fun nr nsr => (cond (nr == 0) (k0 nsr) (SQ57 b_1 b_2 (fun nr_1 => (cond (nr_1 == 0) (k1 nsr) (SQ27 x (imm false x y) b nsr (SQ27 y (imm false x y) b_1 b_2 (SQ44 false b nsr b_1 b_2 (fun cr nsr_1 => (k2 (imm false x y) nsr cr nsr_1))) (fun cr_1 nsr_2 => (SQ44 false b nsr cr_1 nsr_2 (fun cr_2 nsr_3 => (k2 (imm false x y) nsr cr_2 nsr_3))))) (fun cr_3 nsr_4 => (SQ27 y (imm false x y) b_1 b_2 (SQ44 false cr_3 nsr_4 b_1 b_2 (fun cr_4 nsr_5 => (k2 (imm false x y) nsr cr_4 nsr_5))) (fun cr_5 nsr_6 => (SQ44 false cr_3 nsr_4 cr_5 nsr_6 (fun cr_6 nsr_7 => (k2 (imm false x y) nsr cr_6 nsr_7)))))))))))))

def sQ18 (N : Nat) : TSQ18 := GQ18 N (sQ104 N) (sQ57 N) (sQ27 N) (sQ44 N)

abbrev TSQ3 : Type := Int -> Int -> Bool -> List Int -> Bool -> List Int -> (Bool) -> (Bool) -> (Int -> Bool -> List Int -> Bool) -> Bool

def GQ3 (N : Nat) (SQ57 : TSQ57) (SQ27 : TSQ27) (SQ44 : TSQ44) (x y : Int) (b : Bool) (b_1 : List Int) (b_2 : Bool) (b_3 : List Int) (k0 k1 : Bool) (k2 : Int -> Bool -> List Int -> Bool) : Bool :=
  (SQ57 b b_1 (fun nr => (cond (nr == 0) k0 (SQ57 b_2 b_3 (fun nr_1 => (cond (nr_1 == 0) k1 (SQ27 x (imm false x y) b b_1 (SQ27 y (imm false x y) b_2 b_3 (SQ44 false b b_1 b_2 b_3 (fun cr nsr => (k2 (imm false x y) cr nsr))) (fun cr_1 nsr_1 => (SQ44 false b b_1 cr_1 nsr_1 (fun cr_2 nsr_2 => (k2 (imm false x y) cr_2 nsr_2))))) (fun cr_3 nsr_3 => (SQ27 y (imm false x y) b_2 b_3 (SQ44 false cr_3 nsr_3 b_2 b_3 (fun cr_4 nsr_4 => (k2 (imm false x y) cr_4 nsr_4))) (fun cr_5 nsr_5 => (SQ44 false cr_3 nsr_3 cr_5 nsr_5 (fun cr_6 nsr_6 => (k2 (imm false x y) cr_6 nsr_6)))))))))))))

def sQ3 (N : Nat) : TSQ3 := GQ3 N (sQ57 N) (sQ27 N) (sQ44 N)

abbrev TSQ142 : Type := List Fl -> List Fl -> (Int -> Bool -> List Int -> Bool) -> Bool

def st_z03_Dot_0 (N : Nat) (SQ113 : TSQ113) (SQ118 : TSQ118) (SQ2 : TSQ2) (SQ18 : TSQ18) (SQ3 : TSQ3) (a_2 b_2 : List Fl) (t9_1 : Int) (t4_2 : Value) (t4_3 : Int) (e0 : Int -> Bool -> List Int -> Bool) : (Int × Int × Bool × List Int) -> ((Int × Int × Bool × List Int) -> Bool) -> Bool := fun v_ K => match v_ with
  | (t10_1, s_1, b2_1, b2_2) => (cond (decide (t10_1 < t9_1)) ((inR t10_1 (List.length a_2)) && (SQ118 (List.getD a_2 (Int.toNat t10_1) none) (fun nr_4 cr_4 nsr_4 => ((inR t10_1 (List.length b_2)) && (SQ118 (List.getD b_2 (Int.toNat t10_1) none) (fun nr_5 cr_5 nsr_5 => (SQ2 nr_4 nr_5 cr_4 nsr_4 cr_5 nsr_5 (fun nr_6 cr_6 nsr_6 => (SQ3 s_1 nr_6 b2_1 b2_2 cr_6 nsr_6 ((fits .i64 (t10_1 + 1)) && (K ((t10_1 + 1), nr_6, cr_6, nsr_6))) ((fits .i64 (t10_1 + 1)) && (K ((t10_1 + 1), s_1, b2_1, b2_2))) (fun nr_7 cr_7 nsr_7 => ((fits .i64 (t10_1 + 1)) && (K ((t10_1 + 1), nr_7, cr_7, nsr_7))))))))))))) (e0 s_1 b2_1 b2_2))

def GQ142 (N : Nat) (SQ113 : TSQ113) (SQ118 : TSQ118) (SQ2 : TSQ2) (SQ18 : TSQ18) (SQ3 : TSQ3) (a b : List Fl) (k0 : Int -> Bool -> List Int -> Bool) : Bool :=
  (SQ113 (fun nr cr => (iterG N (st_z03_Dot_0 N SQ113 SQ118 SQ2 SQ18 SQ3 a b (((List.length a) : Nat) : Int) (.pointer none) 0 (fun s_2 b2_3 b2_4 => (k0 s_2 b2_3 b2_4))) (0, nr, cr, []))))

def sQ142 (N : Nat) : TSQ142 := GQ142 N (sQ113 N) (sQ118 N) (sQ2 N) (sQ18 N) (sQ3 N)

abbrev TSQ31 : Type := Fl -> Fl -> Fl -> (Int -> Bool -> List Int -> Bool) -> Bool

def GQ31 (N : Nat) (SQ142 : TSQ142) (v_0 v_1 v_2 : Fl) (k0 : Int -> Bool -> List Int -> Bool) : Bool :=
  (SQ142 [v_0, v_1, v_2] [v_0, v_1, v_2] (fun nr cr nsr => (k0 nr cr nsr)))

def sQ31 (N : Nat) : TSQ31 := GQ31 N (sQ142 N)

abbrev TSQ105 : Type := Fl -> Fl -> Fl -> Fl -> Fl -> Fl -> Fl -> Fl -> (Fl -> Fl -> Fl -> Fl -> Int -> Bool) -> Bool

def GQ105 (N : Nat) (SQ110 : TSQ110) (SQ85 : TSQ85) (a_0 a_1 a_2 a_3 b_0 b_1 b_2 b_3 : Fl) (k0 : Fl -> Fl -> Fl -> Fl -> Int -> Bool) : Bool :=
  (SQ110 a_0 a_1 a_2 a_3 b_0 b_1 b_2 b_3 (fun xr xr_1 xr_2 xr_3 nr => (cond (nr != 0) (k0 (some 0) (some 0) (some 0) (some 0) nr) (SQ85 xr xr_1 xr_2 xr_3 (fun xr_4 xr_5 xr_6 xr_7 nr_1 => (k0 xr_4 xr_5 xr_6 xr_7 nr_1))))))

def sQ105 (N : Nat) : TSQ105 := GQ105 N (sQ110 N) (sQ85 N)

abbrev TSQ96 : Type := Bool -> Bool -> List Int -> (Bool -> Nat -> Nat -> Bool) -> Bool

def GQ96 (N : Nat) (SQ10 : TSQ10) (neg b : Bool) (b_1 : List Int) (k0 : Bool -> Nat -> Nat -> Bool) : Bool :=
  (SQ10 b_1 (fun mr mr_1 => (cond (neg == true) (k0 (decide (((mr_1 : Nat) : Int) > 0)) mr mr_1) (k0 false mr mr_1))))

def sQ96 (N : Nat) : TSQ96 := GQ96 N (sQ10 N)

abbrev TSQ83 : Type := Bool -> Bool -> List Int -> (Bool -> List Int -> Bool) -> Bool

def GQ83 (N : Nat) (SQ96 : TSQ96) (b b_1 : Bool) (b_2 : List Int) (k0 : Bool -> List Int -> Bool) : Bool :=
  ((decide ((List.length ([] ++ b_2)) * 4 <= 140737488355328)) && (SQ96 (!b_1) b ([] ++ b_2) (fun cr mr mr_1 => ((decide ((mr + mr_1) <= (List.length ([] ++ b_2)))) && (k0 cr (List.take mr_1 (List.drop mr ([] ++ b_2))))))))

def sQ83 (N : Nat) : TSQ83 := GQ83 N (sQ96 N)

abbrev TSQ20 : Type := Int -> Bool -> List Int -> (Bool -> List Int -> Bool) -> Bool

def GQ20 (N : Nat) (SQ83 : TSQ83) (x : Int) (b : Bool) (b_1 : List Int) (k0 : Bool -> List Int -> Bool) : Bool :=
  (SQ83 false b b_1 (fun cr nsr => (k0 cr nsr)))

def sQ20 (N : Nat) : TSQ20 := GQ20 N (sQ83 N)

abbrev TSQ75 : Type := Bool -> Bool -> List Int -> (Bool -> List Int -> Bool) -> Bool

def GQ75 (N : Nat) (SQ91 : TSQ91) (SQ37 : TSQ37) (b b_1 : Bool) (b_2 : List Int) (k0 : Bool -> List Int -> Bool) : Bool :=
  (SQ91 b_2 b_2 (fun nsr => (SQ37 (b_1 != b_1) nsr b (fun cr nsr_1 => (k0 cr nsr_1)))))

def sQ75 (N : Nat) : TSQ75 := GQ75 N (sQ91 N) (sQ37 N)

abbrev TSQ16 : Type := Int -> Int -> Bool -> List Int -> (Int -> Bool -> List Int -> Bool) -> Bool

def GQ16 (N : Nat) (SQ75 : TSQ75) (x y : Int) (b : Bool) (b_1 : List Int) (k0 : Int -> Bool -> List Int -> Bool) : Bool :=
  (SQ75 false b b_1 (fun cr nsr => ((fits .i64 (x + y)) && (k0 (x + y) cr nsr))))

def sQ16 (N : Nat) : TSQ16 := GQ16 N (sQ75 N)

abbrev TSQ74 : Type := Int -> Bool -> (Bool -> List Int -> Bool) -> Bool

def GQ74 (N : Nat) (SQ100 : TSQ100) (SQ37 : TSQ37) (n : Int) (b : Bool) (k0 : Bool -> List Int -> Bool) : Bool :=
  (cond (decide (n < 0)) (SQ100 (IntKind.wrap .u64 (0 - (IntKind.wrap .u64 n))) (fun nsr => (SQ37 (decide (n < 0)) nsr b (fun cr nsr_1 => (k0 cr nsr_1))))) (SQ100 (IntKind.wrap .u64 n) (fun nsr_2 => (SQ37 (decide (n < 0)) nsr_2 b (fun cr_1 nsr_3 => (k0 cr_1 nsr_3))))))

def sQ74 (N : Nat) : TSQ74 := GQ74 N (sQ100 N) (sQ37 N)

abbrev TSQ106 : Type := Int -> (Bool -> List Int -> Bool) -> Bool

def GQ106 (N : Nat) (SQ74 : TSQ74) (n : Int) (k0 : Bool -> List Int -> Bool) : Bool :=
  (SQ74 n false (fun cr nsr => (k0 cr nsr)))

def sQ106 (N : Nat) : TSQ106 := GQ106 N (sQ74 N)

abbrev TSQ86 : Type := Int -> (Bool -> List Int -> Bool) -> Bool

def GQ86 (N : Nat) (SQ106 : TSQ106) (e : Int) (k0 : Bool -> List Int -> Bool) : Bool :=
  (SQ106 1 (fun cr nsr => (k0 cr nsr)))

def sQ86 (N : Nat) : TSQ86 := GQ86 N (sQ106 N)

abbrev TSQ12 : Type := Int -> Int -> Bool -> List Int -> Bool -> List Int -> (Int -> Bool) -> Bool

def GQ12 (N : Nat) (SQ20 : TSQ20) (SQ3 : TSQ3) (SQ57 : TSQ57) (x y : Int) (b : Bool) (b_1 : List Int) (b_2 : Bool) (b_3 : List Int) (k0 : Int -> Bool) : Bool :=
  (SQ20 y b_2 b_3 (fun cr nsr => (SQ3 x y b b_1 cr nsr (SQ57 cr nsr (fun nr => (k0 nr))) (SQ57 b b_1 (fun nr_1 => (k0 nr_1))) (fun nr_2 cr_1 nsr_1 => (SQ57 cr_1 nsr_1 (fun nr_3 => (k0 nr_3)))))))

def sQ12 (N : Nat) : TSQ12 := GQ12 N (sQ20 N) (sQ3 N) (sQ57 N)

abbrev TSQ21 : Type := Fl -> Fl -> Fl -> Fl -> Fl -> Fl -> Int -> Int -> Bool -> List Int -> (Bool -> Bool) -> Bool

def GQ21 (N : Nat) (SQ118 : TSQ118) (SQ20 : TSQ20) (SQ3 : TSQ3) (SQ16 : TSQ16) (SQ86 : TSQ86) (SQ2 : TSQ2) (SQ12 : TSQ12) (a_0 a_1 a_2 b_0 b_1 b_2 : Fl) (k_ square : Int) (b : Bool) (b_3 : List Int) (k0 : Bool -> Bool) : Bool :=
  (SQ118 a_0 (fun nr cr nsr => (SQ118 b_0 (fun nr_1 cr_1 nsr_1 => (SQ20 nr_1 cr_1 nsr_1 (fun cr_2 nsr_2 => (SQ3 nr nr_1 cr nsr cr_2 nsr_2 (SQ16 nr_1 nr_1 cr_2 nsr_2 (fun nr_2 cr_3 nsr_3 => ((fits .i64 (2 * k_)) && (SQ86 (2 * k_) (fun cr_4 nsr_4 => (SQ2 square (2 * k_) b b_3 cr_4 nsr_4 (fun nr_3 cr_5 nsr_5 => (SQ12 nr_2 nr_3 cr_3 nsr_3 cr_5 nsr_5 (fun nr_4 => (cond (decide (nr_4 > 0)) (k0 false) (SQ118 a_1 (fun nr_5 cr_6 nsr_6 => (SQ118 b_1 (fun nr_6 cr_7 nsr_7 => (SQ20 nr_6 cr_7 nsr_7 (fun cr_8 nsr_8 => (SQ3 nr_5 nr_6 cr_6 nsr_6 cr_8 nsr_8 (SQ16 nr_6 nr_6 cr_8 nsr_8 (fun nr_7 cr_9 nsr_9 => ((fits .i64 (2 * k_)) && (SQ86 (2 * k_) (fun cr_10 nsr_10 => (SQ2 square (2 * k_) b b_3 cr_10 nsr_10 (fun nr_8 cr_11 nsr_11 => (SQ12 nr_7 nr_8 cr_9 nsr_9 cr_11 nsr_11 (fun nr_9 => (cond (decide (nr_9 > 0)) (k0 false) (SQ118 a_2 (fun nr_10 cr_12 nsr_12 => (SQ118 b_2 (fun nr_11 cr_13 nsr_13 => (SQ20 nr_11 cr_13 nsr_13 (fun cr_14 nsr_14 => (SQ3 nr_10 nr_11 cr_12 nsr_12 cr_14 nsr_14 (SQ16 nr_11 nr_11 cr_14 nsr_14 (fun nr_12 cr_15 nsr_15 => ((fits .i64 (2 * k_)) && (SQ86 (2 * k_) (fun cr_16 nsr_16 => (SQ2 square (2 * k_) b b_3 cr_16 nsr_16 (fun nr_13 cr_17 nsr_17 => (SQ12 nr_12 nr_13 cr_15 nsr_15 cr_17 nsr_17 (fun nr_14 => (cond (decide (nr_14 > 0)) (k0 false) (k0 true))))))))))) (SQ16 nr_10 nr_10 cr_12 nsr_12 (fun nr_15 cr_18 nsr_18 => ((fits .i64 (2 * k_)) && (SQ86 (2 * k_) (fun cr_19 nsr_19 => (SQ2 square (2 * k_) b b_3 cr_19 nsr_19 (fun nr_16 cr_20 nsr_20 => (SQ12 nr_15 nr_16 cr_18 nsr_18 cr_20 nsr_20 (fun nr_17 => (cond (decide (nr_17 > 0)) (k0 false) (k0 true))))))))))) (fun nr_18 cr_21 nsr_21 => (SQ16 nr_18 nr_18 cr_21 nsr_21 (fun nr_19 cr_22 nsr_22 => ((fits .i64 (2 * k_)) && (SQ86 (2 * k_) (fun cr_23 nsr_23 => (SQ2 square (2 * k_) b b_3 cr_23 nsr_23 (fun nr_20 cr_24 nsr_24 => (SQ12 nr_19 nr_20 cr_22 nsr_22 cr_24 nsr_24 (fun nr_21 => (cond (decide (nr_21 > 0)) (k0 false) (k0 true))))))))))))))))))))))))))))) (SQ16 nr_5 nr_5 cr_6 nsr_6 (fun nr_22 cr_25 nsr_25 => ((fits .i64 (2 * k_)) && (SQ86 (2 * k_) (fun cr_26 nsr_26 => (SQ2 square (2 * k_) b b_3 cr_26 nsr_26 (fun nr_23 cr_27 nsr_27 => (SQ12 nr_22 nr_23 cr_25 nsr_25 cr_27 nsr_27 (fun nr_24 => (cond (decide (nr_24 > 0)) (k0 false) (SQ118 a_2 (fun nr_25 cr_28 nsr_28 => (SQ118 b_2 (fun nr_26 cr_29 nsr_29 => (SQ20 nr_26 cr_29 nsr_29 (fun cr_30 nsr_30 => (SQ3 nr_25 nr_26 cr_28 nsr_28 cr_30 nsr_30 (SQ16 nr_26 nr_26 cr_30 nsr_30 (fun nr_27 cr_31 nsr_31 => ((fits .i64 (2 * k_)) && (SQ86 (2 * k_) (fun cr_32 nsr_32 => (SQ2 square (2 * k_) b b_3 cr_32 nsr_32 (fun nr_28 cr_33 nsr_33 => (SQ12 nr_27 nr_28 cr_31 nsr_31 cr_33 nsr_33 (fun nr_29 => (cond (decide (nr_29 > 0)) (k0 false) (k0 true))))))))))) (SQ16 nr_25 nr_25 cr_28 nsr_28 (fun nr_30 cr_34 nsr_34 => ((fits .i64 (2 * k_)) && (SQ86 (2 * k_) (fun cr_35 nsr_35 => (SQ2 square (2 * k_) b b_3 cr_35 nsr_35 (fun nr_31 cr_36 nsr_36 => (SQ12 nr_30 nr_31 cr_34 nsr_34 cr_36 nsr_36 (fun nr_32 => (cond (decide (nr_32 > 0)) (k0 false) (k0 true))))))))))) (fun nr_33 cr_37 nsr_37 => (SQ16 nr_33 nr_33 cr_37 nsr_37 (fun nr_34 cr_38 nsr_38 => ((fits .i64 (2 * k_)) && (SQ86 (2 * k_) (fun cr_39 nsr_39 => (SQ2 square (2 * k_) b b_3 cr_39 nsr_39 (fun nr_35 cr_40 nsr_40 => (SQ12 nr_34 nr_35 cr_38 nsr_38 cr_40 nsr_40 (fun nr_36 => (cond (decide (nr_36 > 0)) (k0 false) (k0 true))))))))))))))))))))))))))))) (fun nr_37 cr_41 nsr_41 => (SQ16 nr_37 nr_37 cr_41 nsr_41 (fun nr_38 cr_42 nsr_42 => ((fits .i64 (2 * k_)) && (SQ86 (2 * k_) (fun cr_43 nsr_43 => (SQ2 square (2 * k_) b b_3 cr_43 nsr_43 (fun nr_39 cr_44 nsr_44 => (SQ12 nr_38 nr_39 cr_42 nsr_42 cr_44 nsr_44 (fun nr_40 => (cond (decide (nr_40 > 0)) (k0 false) (SQ118 a_2 (fun nr_41 cr_45 nsr_45 => (SQ118 b_2 (fun nr_42 cr_46 nsr_46 => (SQ20 nr_42 cr_46 nsr_46 (fun cr_47 nsr_47 => (SQ3 nr_41 nr_42 cr_45 nsr_45 cr_47 nsr_47 (SQ16 nr_42 nr_42 cr_47 nsr_47 (fun nr_43 cr_48 nsr_48 => ((fits .i64 (2 * k_)) && (SQ86 (2 * k_) (fun cr_49 nsr_49 => (SQ2 square (2 * k_) b b_3 cr_49 nsr_49 (fun nr_44 cr_50 nsr_50 => (SQ12 nr_43 nr_44 cr_48 nsr_48 cr_50 nsr_50 (fun nr_45 => (cond (decide (nr_45 > 0)) (k0 false) (k0 true))))))))))) (SQ16 nr_41 nr_41 cr_45 nsr_45 (fun nr_46 cr_51 nsr_51 => ((fits .i64 (2 * k_)) && (SQ86 (2 * k_) (fun cr_52 nsr_52 => (SQ2 square (2 * k_) b b_3 cr_52 nsr_52 (fun nr_47 cr_53 nsr_53 => (SQ12 nr_46 nr_47 cr_51 nsr_51 cr_53 nsr_53 (fun nr_48 => (cond (decide (nr_48 > 0)) (k0 false) (k0 true))))))))))) (fun nr_49 cr_54 nsr_54 => (SQ16 nr_49 nr_49 cr_54 nsr_54 (fun nr_50 cr_55 nsr_55 => ((fits .i64 (2 * k_)) && (SQ86 (2 * k_) (fun cr_56 nsr_56 => (SQ2 square (2 * k_) b b_3 cr_56 nsr_56 (fun nr_51 cr_57 nsr_57 => (SQ12 nr_50 nr_51 cr_55 nsr_55 cr_57 nsr_57 (fun nr_52 => (cond (decide (nr_52 > 0)) (k0 false) (k0 true))))))))))))))))))))))))))))))))))))))))))))))) (SQ16 nr nr cr nsr (fun nr_53 cr_58 nsr_58 => ((fits .i64 (2 * k_)) && (SQ86 (2 * k_) (fun cr_59 nsr_59 => (SQ2 square (2 * k_) b b_3 cr_59 nsr_59 (fun nr_54 cr_60 nsr_60 => (SQ12 nr_53 nr_54 cr_58 nsr_58 cr_60 nsr_60 (fun nr_55 => (cond (decide (nr_55 > 0)) (k0 false) (SQ118 a_1 (fun nr_56 cr_61 nsr_61 => (SQ118 b_1 (fun nr_57 cr_62 nsr_62 => (SQ20 nr_57 cr_62 nsr_62 (fun cr_63 nsr_63 => (SQ3 nr_56 nr_57 cr_61 nsr_61 cr_63 nsr_63 (SQ16 nr_57 nr_57 cr_63 nsr_63 (fun nr_58 cr_64 nsr_64 => ((fits .i64 (2 * k_)) && (SQ86 (2 * k_) (fun cr_65 nsr_65 => (SQ2 square (2 * k_) b b_3 cr_65 nsr_65 (fun nr_59 cr_66 nsr_66 => (SQ12 nr_58 nr_59 cr_64 nsr_64 cr_66 nsr_66 (fun nr_60 => (cond (decide (nr_60 > 0)) (k0 false) (SQ118 a_2 (fun nr_61 cr_67 nsr_67 => (SQ118 b_2 (fun nr_62 cr_68 nsr_68 => (SQ20 nr_62 cr_68 nsr_68 (fun cr_69 nsr_69 => (SQ3 nr_61 nr_62 cr_67 nsr_67 cr_69 nsr_69 (SQ16 nr_62 nr_62 cr_69 nsr_69 (fun nr_63 cr_70 nsr_70 => ((fits .i64 (2 * k_)) && (SQ86 (2 * k_) (fun cr_71 nsr_71 => (SQ2 square (2 * k_) b b_3 cr_71 nsr_71 (fun nr_64 cr_72 nsr_72 => (SQ12 nr_63 nr_64 cr_70 nsr_70 cr_72 nsr_72 (fun nr_65 => (cond (decide (nr_65 > 0)) (k0 false) (k0 true))))))))))) (SQ16 nr_61 nr_61 cr_67 nsr_67 (fun nr_66 cr_73 nsr_73 => ((fits .i64 (2 * k_)) && (SQ86 (2 * k_) (fun cr_74 nsr_74 => (SQ2 square (2 * k_) b b_3 cr_74 nsr_74 (fun nr_67 cr_75 nsr_75 => (SQ12 nr_66 nr_67 cr_73 nsr_73 cr_75 nsr_75 (fun nr_68 => (cond (decide (nr_68 > 0)) (k0 false) (k0 true))))))))))) (fun nr_69 cr_76 nsr_76 => (SQ16 nr_69 nr_69 cr_76 nsr_76 (fun nr_70 cr_77 nsr_77 => ((fits .i64 (2 * k_)) && (SQ86 (2 * k_) (fun cr_78 nsr_78 => (SQ2 square (2 * k_) b b_3 cr_78 nsr_78 (fun nr_71 cr_79 nsr_79 => (SQ12 nr_70 nr_71 cr_77 nsr_77 cr_79 nsr_79 (fun nr_72 => (cond (decide (nr_72 > 0)) (k0 false) (k0 true))))))))))))))))))))))))))))) (SQ16 nr_56 nr_56 cr_61 nsr_61 (fun nr_73 cr_80 nsr_80 => ((fits .i64 (2 * k_)) && (SQ86 (2 * k_) (fun cr_81 nsr_81 => (SQ2 square (2 * k_) b b_3 cr_81 nsr_81 (fun nr_74 cr_82 nsr_82 => (SQ12 nr_73 nr_74 cr_80 nsr_80 cr_82 nsr_82 (fun nr_75 => (cond (decide (nr_75 > 0)) (k0 false) (SQ118 a_2 (fun nr_76 cr_83 nsr_83 => (SQ118 b_2 (fun nr_77 cr_84 nsr_84 => (SQ20 nr_77 cr_84 nsr_84 (fun cr_85 nsr_85 => (SQ3 nr_76 nr_77 cr_83 nsr_83 cr_85 nsr_85 (SQ16 nr_77 nr_77 cr_85 nsr_85 (fun nr_78 cr_86 nsr_86 => ((fits .i64 (2 * k_)) && (SQ86 (2 * k_) (fun cr_87 nsr_87 => (SQ2 square (2 * k_) b b_3 cr_87 nsr_87 (fun nr_79 cr_88 nsr_88 => (SQ12 nr_78 nr_79 cr_86 nsr_86 cr_88 nsr_88 (fun nr_80 => (cond (decide (nr_80 > 0)) (k0 false) (k0 true))))))))))) (SQ16 nr_76 nr_76 cr_83 nsr_83 (fun nr_81 cr_89 nsr_89 => ((fits .i64 (2 * k_)) && (SQ86 (2 * k_) (fun cr_90 nsr_90 => (SQ2 square (2 * k_) b b_3 cr_90 nsr_90 (fun nr_82 cr_91 nsr_91 => (SQ12 nr_81 nr_82 cr_89 nsr_89 cr_91 nsr_91 (fun nr_83 => (cond (decide (nr_83 > 0)) (k0 false) (k0 true))))))))))) (fun nr_84 cr_92 nsr_92 => (SQ16 nr_84 nr_84 cr_92 nsr_92 (fun nr_85 cr_93 nsr_93 => ((fits .i64 (2 * k_)) && (SQ86 (2 * k_) (fun cr_94 nsr_94 => (SQ2 square (2 * k_) b b_3 cr_94 nsr_94 (fun nr_86 cr_95 nsr_95 => (SQ12 nr_85 nr_86 cr_93 nsr_93 cr_95 nsr_95 (fun nr_87 => (cond (decide (nr_87 > 0)) (k0 false) (k0 true))))))))))))))))))))))))))))) (fun nr_88 cr_96 nsr_96 => (SQ16 nr_88 nr_88 cr_96 nsr_96 (fun nr_89 cr_97 nsr_97 => ((fits .i64 (2 * k_)) && (SQ86 (2 * k_) (fun cr_98 nsr_98 => (SQ2 square (2 * k_) b b_3 cr_98 nsr_98 (fun nr_90 cr_99 nsr_99 => (SQ12 nr_89 nr_90 cr_97 nsr_97 cr_99 nsr_99 (fun nr_91 => (cond (decide (nr_91 > 0)) (k0 false) (SQ118 a_2 (fun nr_92 cr_100 nsr_100 => (SQ118 b_2 (fun nr_93 cr_101 nsr_101 => (SQ20 nr_93 cr_101 nsr_101 (fun cr_102 nsr_102 => (SQ3 nr_92 nr_93 cr_100 nsr_100 cr_102 nsr_102 (SQ16 nr_93 nr_93 cr_102 nsr_102 (fun nr_94 cr_103 nsr_103 => ((fits .i64 (2 * k_)) && (SQ86 (2 * k_) (fun cr_104 nsr_104 => (SQ2 square (2 * k_) b b_3 cr_104 nsr_104 (fun nr_95 cr_105 nsr_105 => (SQ12 nr_94 nr_95 cr_103 nsr_103 cr_105 nsr_105 (fun nr_96 => (cond (decide (nr_96 > 0)) (k0 false) (k0 true))))))))))) (SQ16 nr_92 nr_92 cr_100 nsr_100 (fun nr_97 cr_106 nsr_106 => ((fits .i64 (2 * k_)) && (SQ86 (2 * k_) (fun cr_107 nsr_107 => (SQ2 square (2 * k_) b b_3 cr_107 nsr_107 (fun nr_98 cr_108 nsr_108 => (SQ12 nr_97 nr_98 cr_106 nsr_106 cr_108 nsr_108 (fun nr_99 => (cond (decide (nr_99 > 0)) (k0 false) (k0 true))))))))))) (fun nr_100 cr_109 nsr_109 => (SQ16 nr_100 nr_100 cr_109 nsr_109 (fun nr_101 cr_110 nsr_110 => ((fits .i64 (2 * k_)) && (SQ86 (2 * k_) (fun cr_111 nsr_111 => (SQ2 square (2 * k_) b b_3 cr_111 nsr_111 (fun nr_102 cr_112 nsr_112 => (SQ12 nr_101 nr_102 cr_110 nsr_110 cr_112 nsr_112 (fun nr_103 => (cond (decide (nr_103 > 0)) (k0 false) (k0 true))))))))))))))))))))))))))))))))))))))))))))))) (fun nr_104 cr_113 nsr_113 => (SQ16 nr_104 nr_104 cr_113 nsr_113 (fun nr_105 cr_114 nsr_114 => ((fits .i64 (2 * k_)) && (SQ86 (2 * k_) (fun cr_115 nsr_115 => (SQ2 square (2 * k_) b b_3 cr_115 nsr_115 (fun nr_106 cr_116 nsr_116 => (SQ12 nr_105 nr_106 cr_114 nsr_114 cr_116 nsr_116 (fun nr_107 => (cond (decide (nr_107 > 0)) (k0 false) (SQ118 a_1 (fun nr_108 cr_117 nsr_117 => (SQ118 b_1 (fun nr_109 cr_118 nsr_118 => (SQ20 nr_109 cr_118 nsr_118 (fun cr_119 nsr_119 => (SQ3 nr_108 nr_109 cr_117 nsr_117 cr_119 nsr_119 (SQ16 nr_109 nr_109 cr_119 nsr_119 (fun nr_110 cr_120 nsr_120 => ((fits .i64 (2 * k_)) && (SQ86 (2 * k_) (fun cr_121 nsr_121 => (SQ2 square (2 * k_) b b_3 cr_121 nsr_121 (fun nr_111 cr_122 nsr_122 => (SQ12 nr_110 nr_111 cr_120 nsr_120 cr_122 nsr_122 (fun nr_112 => (cond (decide (nr_112 > 0)) (k0 false) (SQ118 a_2 (fun nr_113 cr_123 nsr_123 => (SQ118 b_2 (fun nr_114 cr_124 nsr_124 => (SQ20 nr_114 cr_124 nsr_124 (fun cr_125 nsr_125 => (SQ3 nr_113 nr_114 cr_123 nsr_123 cr_125 nsr_125 (SQ16 nr_114 nr_114 cr_125 nsr_125 (fun nr_115 cr_126 nsr_126 => ((fits .i64 (2 * k_)) && (SQ86 (2 * k_) (fun cr_127 nsr_127 => (SQ2 square (2 * k_) b b_3 cr_127 nsr_127 (fun nr_116 cr_128 nsr_128 => (SQ12 nr_115 nr_116 cr_126 nsr_126 cr_128 nsr_128 (fun nr_117 => (cond (decide (nr_117 > 0)) (k0 false) (k0 true))))))))))) (SQ16 nr_113 nr_113 cr_123 nsr_123 (fun nr_118 cr_129 nsr_129 => ((fits .i64 (2 * k_)) && (SQ86 (2 * k_) (fun cr_130 nsr_130 => (SQ2 square (2 * k_) b b_3 cr_130 nsr_130 (fun nr_119 cr_131 nsr_131 => (SQ12 nr_118 nr_119 cr_129 nsr_129 cr_131 nsr_131 (fun nr_120 => (cond (decide (nr_120 > 0)) (k0 false) (k0 true))))))))))) (fun nr_121 cr_132 nsr_132 => (SQ16 nr_121 nr_121 cr_132 nsr_132 (fun nr_122 cr_133 nsr_133 => ((fits .i64 (2 * k_)) && (SQ86 (2 * k_) (fun cr_134 nsr_134 => (SQ2 square (2 * k_) b b_3 cr_134 nsr_134 (fun nr_123 cr_135 nsr_135 => (SQ12 nr_122 nr_123 cr_133 nsr_133 cr_135 nsr_135 (fun nr_124 => (cond (decide (nr_124 > 0)) (k0 false) (k0 true))))))))))))))))))))))))))))) (SQ16 nr_108 nr_108 cr_117 nsr_117 (fun nr_125 cr_136 nsr_136 => ((fits .i64 (2 * k_)) && (SQ86 (2 * k_) (fun cr_137 nsr_137 => (SQ2 square (2 * k_) b b_3 cr_137 nsr_137 (fun nr_126 cr_138 nsr_138 => (SQ12 nr_125 nr_126 cr_136 nsr_136 cr_138 nsr_138 (fun nr_127 => (cond (decide (nr_127 > 0)) (k0 false) (SQ118 a_2 (fun nr_128 cr_139 nsr_139 => (SQ118 b_2 (fun nr_129 cr_140 nsr_140 => (SQ20 nr_129 cr_140 nsr_140 (fun cr_141 nsr_141 => (SQ3 nr_128 nr_129 cr_139 nsr_139 cr_141 nsr_141 (SQ16 nr_129 nr_129 cr_141 nsr_141 (fun nr_130 cr_142 nsr_142 => ((fits .i64 (2 * k_)) && (SQ86 (2 * k_) (fun cr_143 nsr_143 => (SQ2 square (2 * k_) b b_3 cr_143 nsr_143 (fun nr_131 cr_144 nsr_144 => (SQ12 nr_130 nr_131 cr_142 nsr_142 cr_144 nsr_144 (fun nr_132 => (cond (decide (nr_132 > 0)) (k0 false) (k0 true))))))))))) (SQ16 nr_128 nr_128 cr_139 nsr_139 (fun nr_133 cr_145 nsr_145 => ((fits .i64 (2 * k_)) && (SQ86 (2 * k_) (fun cr_146 nsr_146 => (SQ2 square (2 * k_) b b_3 cr_146 nsr_146 (fun nr_134 cr_147 nsr_147 => (SQ12 nr_133 nr_134 cr_145 nsr_145 cr_147 nsr_147 (fun nr_135 => (cond (decide (nr_135 > 0)) (k0 false) (k0 true))))))))))) (fun nr_136 cr_148 nsr_148 => (SQ16 nr_136 nr_136 cr_148 nsr_148 (fun nr_137 cr_149 nsr_149 => ((fits .i64 (2 * k_)) && (SQ86 (2 * k_) (fun cr_150 nsr_150 => (SQ2 square (2 * k_) b b_3 cr_150 nsr_150 (fun nr_138 cr_151 nsr_151 => (SQ12 nr_137 nr_138 cr_149 nsr_149 cr_151 nsr_151 (fun nr_139 => (cond (decide (nr_139 > 0)) (k0 false) (k0 true))))))))))))))))))))))))))))) (fun nr_140 cr_152 nsr_152 => (SQ16 nr_140 nr_140 cr_152 nsr_152 (fun nr_141 cr_153 nsr_153 => ((fits .i64 (2 * k_)) && (SQ86 (2 * k_) (fun cr_154 nsr_154 => (SQ2 square (2 * k_) b b_3 cr_154 nsr_154 (fun nr_142 cr_155 nsr_155 => (SQ12 nr_141 nr_142 cr_153 nsr_153 cr_155 nsr_155 (fun nr_143 => (cond (decide (nr_143 > 0)) (k0 false) (SQ118 a_2 (fun nr_144 cr_156 nsr_156 => (SQ118 b_2 (fun nr_145 cr_157 nsr_157 => (SQ20 nr_145 cr_157 nsr_157 (fun cr_158 nsr_158 => (SQ3 nr_144 nr_145 cr_156 nsr_156 cr_158 nsr_158 (SQ16 nr_145 nr_145 cr_158 nsr_158 (fun nr_146 cr_159 nsr_159 => ((fits .i64 (2 * k_)) && (SQ86 (2 * k_) (fun cr_160 nsr_160 => (SQ2 square (2 * k_) b b_3 cr_160 nsr_160 (fun nr_147 cr_161 nsr_161 => (SQ12 nr_146 nr_147 cr_159 nsr_159 cr_161 nsr_161 (fun nr_148 => (cond (decide (nr_148 > 0)) (k0 false) (k0 true))))))))))) (SQ16 nr_144 nr_144 cr_156 nsr_156 (fun nr_149 cr_162 nsr_162 => ((fits .i64 (2 * k_)) && (SQ86 (2 * k_) (fun cr_163 nsr_163 => (SQ2 square (2 * k_) b b_3 cr_163 nsr_163 (fun nr_150 cr_164 nsr_164 => (SQ12 nr_149 nr_150 cr_162 nsr_162 cr_164 nsr_164 (fun nr_151 => (cond (decide (nr_151 > 0)) (k0 false) (k0 true))))))))))) (fun nr_152 cr_165 nsr_165 => (SQ16 nr_152 nr_152 cr_165 nsr_165 (fun nr_153 cr_166 nsr_166 => ((fits .i64 (2 * k_)) && (SQ86 (2 * k_) (fun cr_167 nsr_167 => (SQ2 square (2 * k_) b b_3 cr_167 nsr_167 (fun nr_154 cr_168 nsr_168 => (SQ12 nr_153 nr_154 cr_166 nsr_166 cr_168 nsr_168 (fun nr_155 => (cond (decide (nr_155 > 0)) (k0 false) (k0 true)))))))))))))))))))))))))))))))))))))))))))))))))))))))

def sQ21 (N : Nat) : TSQ21 := GQ21 (N + 24) (sQ118 N) (sQ20 N) (sQ3 N) (sQ16 N) (sQ86 N) (sQ2 N) (sQ12 N)

abbrev TSQ107 : Type := Fl -> Fl -> Fl -> Fl -> (Fl -> Fl -> Fl -> Fl -> Int -> Bool) -> Bool

def GQ107 (N : Nat) (SQ7 : TSQ7) (q_0 q_1 q_2 q_3 : Fl) (k0 : Fl -> Fl -> Fl -> Fl -> Int -> Bool) : Bool :=
  (SQ7 q_0 q_1 q_2 q_3 (fun cr => (cond (!cr) (k0 (some 0) (some 0) (some 0) (some 0) 4) (k0 q_0 (fneg q_1) (fneg q_2) (fneg q_3) 0))))

def sQ107 (N : Nat) : TSQ107 := GQ107 N (sQ7 N)

abbrev TSQ84 : Type := Fl -> Fl -> Fl -> Fl -> (Int -> Int -> Int -> Bool) -> (Int -> Int -> Int -> List Fl -> Bool) -> Bool

def GQ84 (N : Nat) (SQ7 : TSQ7) (SQ29 : TSQ29) (q_0 q_1 q_2 q_3 : Fl) (k0 : Int -> Int -> Int -> Bool) (k1 : Int -> Int -> Int -> List Fl -> Bool) : Bool :=
  (SQ7 q_0 q_1 q_2 q_3 (fun cr => (cond (!cr) (k0 0 0 4) (SQ29 [(fsub (some 4607182418800017408) (fmul (some 4611686018427387904) (fadd (fmul q_2 q_2) (fmul q_3 q_3)))), (fmul (some 4611686018427387904) (fsub (fmul q_1 q_2) (fmul q_0 q_3))), (fmul (some 4611686018427387904) (fadd (fmul q_1 q_3) (fmul q_0 q_2))), (fmul (some 4611686018427387904) (fadd (fmul q_1 q_2) (fmul q_0 q_3))), (fsub (some 4607182418800017408) (fmul (some 4611686018427387904) (fadd (fmul q_1 q_1) (fmul q_3 q_3)))), (fmul (some 4611686018427387904) (fsub (fmul q_2 q_3) (fmul q_0 q_1))), (fmul (some 4611686018427387904) (fsub (fmul q_1 q_3) (fmul q_0 q_2))), (fmul (some 4611686018427387904) (fadd (fmul q_2 q_3) (fmul q_0 q_1))), (fsub (some 4607182418800017408) (fmul (some 4611686018427387904) (fadd (fmul q_1 q_1) (fmul q_2 q_2))))] (fun cr_1 => (cond (!cr_1) (k0 0 0 5) (k1 3 3 0 [(fsub (some 4607182418800017408) (fmul (some 4611686018427387904) (fadd (fmul q_2 q_2) (fmul q_3 q_3)))), (fmul (some 4611686018427387904) (fsub (fmul q_1 q_2) (fmul q_0 q_3))), (fmul (some 4611686018427387904) (fadd (fmul q_1 q_3) (fmul q_0 q_2))), (fmul (some 4611686018427387904) (fadd (fmul q_1 q_2) (fmul q_0 q_3))), (fsub (some 4607182418800017408) (fmul (some 4611686018427387904) (fadd (fmul q_1 q_1) (fmul q_3 q_3)))), (fmul (some 4611686018427387904) (fsub (fmul q_2 q_3) (fmul q_0 q_1))), (fmul (some 4611686018427387904) (fsub (fmul q_1 q_3) (fmul q_0 q_2))), (fmul (some 4611686018427387904) (fadd (fmul q_2 q_3) (fmul q_0 q_1))), (fsub (some 4607182418800017408) (fmul (some 4611686018427387904) (fadd (fmul q_1 q_1) (fmul q_2 q_2))))])))))))

def sQ84 (N : Nat) : TSQ84 := GQ84 N (sQ7 N) (sQ29 N)

abbrev TSQ51 : Type := Int -> Int -> Int -> Int -> Int -> Int -> Int -> Int -> Int -> Int -> Int -> (Bool -> Bool) -> Bool

def GQ51 (N : Nat) (SQ45 : TSQ45) (SQ41 : TSQ41) (SQ46 : TSQ46) (SQ71 : TSQ71) (SQ47 : TSQ47) (SQ31 : TSQ31) (SQ105 : TSQ105) (SQ77 : TSQ77) (SQ21 : TSQ21) (SQ107 : TSQ107) (SQ84 : TSQ84) (x_0 x_1 x_2 x_3 y_0 y_1 y_2 y_3 u_0 u_1 u_2 : Int) (k0 : Bool -> Bool) : Bool :=
  (SQ45 (fun cr => (cond (!cr) (k0 false) (SQ41 x_0 x_1 x_2 x_3 (fun xr xr_1 xr_2 xr_3 => (SQ41 y_0 y_1 y_2 y_3 (fun xr_4 xr_5 xr_6 xr_7 => (SQ46 u_0 u_1 u_2 (fun xr_8 xr_9 xr_10 => (SQ71 xr xr_1 xr_2 xr_3 (fun cr_1 => (cond ((!cr_1) == false) (SQ71 xr_4 xr_5 xr_6 xr_7 (fun cr_2 => (cond ((!cr_2) == false) (SQ47 xr_8 xr_9 xr_10 (fun cr_3 => (cond (!cr_3) (k0 true) (SQ31 xr_8 xr_9 xr_10 (fun nr cr_4 nsr => (SQ105 xr xr_1 xr_2 xr_3 xr_4 xr_5 xr_6 xr_7 (fun xr_11 xr_12 xr_13 xr_14 nr_1 => (SQ77 xr_11 xr_12 xr_13 xr_14 xr_8 xr_9 xr_10 (fun xr_15 xr_16 xr_17 nr_2 => (SQ77 xr_4 xr_5 xr_6 xr_7 xr_8 xr_9 xr_10 (fun xr_18 xr_19 xr_20 nr_3 => (cond ((nr_1 != 0) == false) (cond ((nr_2 != 0) == false) (cond (nr_3 != 0) (k0 false) (SQ77 xr xr_1 xr_2 xr_3 xr_18 xr_19 xr_20 (fun xr_21 xr_22 xr_23 nr_4 => (cond ((nr_4 != 0) == false) (SQ21 xr_15 xr_16 xr_17 xr_21 xr_22 xr_23 (-42) nr cr_4 nsr (fun cr_5 => (cond (!cr_5) (k0 false) (SQ107 xr xr_1 xr_2 xr_3 (fun xr_24 xr_25 xr_26 xr_27 nr_5 => (SQ77 xr xr_1 xr_2 xr_3 xr_8 xr_9 xr_10 (fun xr_28 xr_29 xr_30 nr_6 => (SQ77 xr_24 xr_25 xr_26 xr_27 xr_28 xr_29 xr_30 (fun xr_31 xr_32 xr_33 nr_7 => (cond ((nr_5 != 0) == false) (cond ((nr_6 != 0) == false) (cond ((nr_7 != 0) == false) (SQ21 xr_31 xr_32 xr_33 xr_8 xr_9 xr_10 (-42) nr cr_4 nsr (fun cr_6 => (cond (!cr_6) (k0 false) (SQ84 xr xr_1 xr_2 xr_3 (fun nr_8 nr_9 nr_10 => (cond ((nr_10 != 0) == false) (k0 false) (k0 false))) (fun nr_11 nr_12 nr_13 xsr => (cond ((nr_13 != 0) == false) (cond ((((List.length xsr) : Nat) : Int) != 9) (k0 false) ((inR 0 (List.length xsr)) && ((decide (0 < (List.length xsr))) && ((inR 1 (List.length xsr)) && ((decide (1 < (List.length xsr))) && ((inR 2 (List.length xsr)) && ((decide (2 < (List.length xsr))) && ((inR 3 (List.length xsr)) && ((decide (3 < (List.length xsr))) && ((inR 4 (List.length xsr)) && ((decide (4 < (List.length xsr))) && ((inR 5 (List.length xsr)) && ((decide (5 < (List.length xsr))) && ((inR 6 (List.length xsr)) && ((decide (6 < (List.length xsr))) && ((inR 7 (List.length xsr)) && ((decide (7 < (List.length xsr))) && ((inR 8 (List.length xsr)) && ((decide (8 < (List.length xsr))) && (SQ21 xr_28 xr_29 xr_30 (fadd (fadd (fmul (List.getD xsr 0 none) xr_8) (fmul (List.getD xsr 1 none) xr_9)) (fmul (List.getD xsr 2 none) xr_10)) (fadd (fadd (fmul (List.getD xsr 3 none) xr_8) (fmul (List.getD xsr 4 none) xr_9)) (fmul (List.getD xsr 5 none) xr_10)) (fadd (fadd (fmul (List.getD xsr 6 none) xr_8) (fmul (List.getD xsr 7 none) xr_9)) (fmul (List.getD xsr 8 none) xr_10)) (-42) nr cr_4 nsr (fun cr_7 => (k0 cr_7)))))))))))))))))))))) (k0 false))))))) (k0 false)) (k0 false)) (k0 false))))))))))) (k0 false))))) (k0 false)) (k0 false))))))))))))) (k0 true)))) (k0 true)))))))))))))

def sQ51 (N : Nat) : TSQ51 := GQ51 (N + 24) (sQ45 N) (sQ41 N) (sQ46 N) (sQ71 N) (sQ47 N) (sQ31 N) (sQ105 N) (sQ77 N) (sQ21 N) (sQ107 N) (sQ84 N)

end Go.Proofs.YtnfgnjciliapaaaGreatDoor
