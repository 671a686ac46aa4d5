/-
  THE PROGRAM's FUNCTIONS, as their meanings (written by program).
  Conditions: none.
-/
import Derived.Test.YtnfgnjciliapaaaGreatDoorMachP
namespace Go.Proofs.YtnfgnjciliapaaaGreatDoor
open Go Go.Mach
set_option linter.unusedVariables false

def strTab_11c1601c : List Int := [0, 1, 2, 2, 3, 3, 3, 3, 4, 4, 4, 4, 4, 4, 4, 4, 5, 5, 5, 5, 5, 5, 5, 5, 5, 5, 5, 5, 5, 5, 5, 5, 6, 6, 6, 6, 6, 6, 6, 6, 6, 6, 6, 6, 6, 6, 6, 6, 6, 6, 6, 6, 6, 6, 6, 6, 6, 6, 6, 6, 6, 6, 6, 6, 7, 7, 7, 7, 7, 7, 7, 7, 7, 7, 7, 7, 7, 7, 7, 7, 7, 7, 7, 7, 7, 7, 7, 7, 7, 7, 7, 7, 7, 7, 7, 7, 7, 7, 7, 7, 7, 7, 7, 7, 7, 7, 7, 7, 7, 7, 7, 7, 7, 7, 7, 7, 7, 7, 7, 7, 7, 7, 7, 7, 7, 7, 7, 7, 8, 8, 8, 8, 8, 8, 8, 8, 8, 8, 8, 8, 8, 8, 8, 8, 8, 8, 8, 8, 8, 8, 8, 8, 8, 8, 8, 8, 8, 8, 8, 8, 8, 8, 8, 8, 8, 8, 8, 8, 8, 8, 8, 8, 8, 8, 8, 8, 8, 8, 8, 8, 8, 8, 8, 8, 8, 8, 8, 8, 8, 8, 8, 8, 8, 8, 8, 8, 8, 8, 8, 8, 8, 8, 8, 8, 8, 8, 8, 8, 8, 8, 8, 8, 8, 8, 8, 8, 8, 8, 8, 8, 8, 8, 8, 8, 8, 8, 8, 8, 8, 8, 8, 8, 8, 8, 8, 8, 8, 8, 8, 8, 8, 8, 8, 8, 8, 8, 8, 8, 8, 8, 8, 8, 8, 8, 8, 8]

abbrev TSQ121 : Type := Nat -> (Int -> Bool) -> Bool

def sQ121 (N : Nat) : TSQ121 := fun n k => k n

abbrev TS_an_of : Type := (Int -> Int -> Int -> Bool) -> Bool

def G_an_of (N : Nat) (k0 : Int -> Int -> Int -> Bool) : Bool :=
  (k0 52 2047 1075)

def s_an_of (N : Nat) : TS_an_of := G_an_of N

abbrev TSQ122 : Type := Int -> Int -> Int -> (Int -> Bool) -> Bool

def GQ122 (N : Nat) (f_0 f_1 f_2 : Int) (k0 : Int -> Bool) : Bool :=
  ((fits .i64 (f_1 + 1)) && ((decide (0 <= f_0)) && (k0 (IntKind.wrap .u64 ((IntKind.wrap .u64 (f_1 + 1)) * 2 ^ (min (Int.toNat f_0) 64))))))

def sQ122 (N : Nat) : TSQ122 := GQ122 N

abbrev TSQ74 : Type := Int -> Int -> Int -> (Int -> Bool) -> Bool

def GQ74 (N : Nat) (f_0 f_1 f_2 : Int) (k0 : Int -> Bool) : Bool :=
  ((decide (0 <= f_0)) && (k0 (IntKind.wrap .u64 ((IntKind.wrap .u64 f_1) * 2 ^ (min (Int.toNat f_0) 64)))))

def sQ74 (N : Nat) : TSQ74 := GQ74 N

abbrev TSQ73 : Type := Int -> Int -> Int -> Int -> (Bool -> Bool) -> Bool

def GQ73 (N : Nat) (SQ122 : TSQ122) (SQ74 : TSQ74) (b f_0 f_1 f_2 : Int) (k0 : Bool -> Bool) : Bool :=
  (SQ122 f_0 f_1 f_2 (fun nr => (SQ74 f_0 f_1 f_2 (fun nr_1 => (k0 (decide ((bitsN .andNot .u64 b nr) > nr_1)))))))

def sQ73 (N : Nat) : TSQ73 := GQ73 N (sQ122 N) (sQ74 N)

abbrev TSQ61 : Type := Int -> Int -> Int -> (Int -> Bool) -> Bool

def GQ61 (N : Nat) (f_0 f_1 f_2 : Int) (k0 : Int -> Bool) : Bool :=
  ((decide (0 <= f_0)) && (k0 (IntKind.wrap .u64 ((1 : Int) * 2 ^ (min (Int.toNat f_0) 64)))))

def sQ61 (N : Nat) : TSQ61 := GQ61 N

abbrev TSQ138 : Type := Int -> Int -> Int -> (Int -> Bool) -> Bool

def GQ138 (N : Nat) (SQ74 : TSQ74) (SQ61 : TSQ61) (f_0 f_1 f_2 : Int) (k0 : Int -> Bool) : Bool :=
  (SQ74 f_0 f_1 f_2 (fun nr => (SQ61 f_0 f_1 f_2 (fun nr_1 => (k0 (bitsN .or .u64 (bitsN .or .u64 nr (Int.fdiv nr_1 (2 ^ 1))) (IntKind.wrap .u64 (Int.tdiv f_0 52))))))))

def sQ138 (N : Nat) : TSQ138 := GQ138 N (sQ74 N) (sQ61 N)

abbrev TSQ64 : Type := Int -> Int -> Int -> Int -> (Int -> Bool) -> Bool

def GQ64 (N : Nat) (SQ73 : TSQ73) (SQ138 : TSQ138) (b f_0 f_1 f_2 : Int) (k0 : Int -> Bool) : Bool :=
  (SQ73 b f_0 f_1 f_2 (fun cr => (cond cr (SQ138 f_0 f_1 f_2 (fun nr => (k0 nr))) (k0 b))))

def sQ64 (N : Nat) : TSQ64 := GQ64 N (sQ73 N) (sQ138 N)

abbrev TSQ24 : Type := Int -> Int -> Int -> Int -> (Bool -> Int -> Int -> Bool) -> Bool

def GQ24 (N : Nat) (SQ64 : TSQ64) (SQ122 : TSQ122) (SQ61 : TSQ61) (b f_0 f_1 f_2 : Int) (k0 : Bool -> Int -> Int -> Bool) : Bool :=
  (SQ64 b f_0 f_1 f_2 (fun nr => (SQ122 f_0 f_1 f_2 (fun nr_1 => ((decide (0 <= f_0)) && ((fits .i64 (bitsN .and .u64 (Int.fdiv nr (2 ^ (min (Int.toNat f_0) 64))) (IntKind.wrap .u64 f_1))) && (SQ61 f_0 f_1 f_2 (fun nr_2 => (k0 ((bitsN .and .u64 nr nr_1) != 0) (bitsN .and .u64 (Int.fdiv nr (2 ^ (min (Int.toNat f_0) 64))) (IntKind.wrap .u64 f_1)) (bitsN .and .u64 nr (IntKind.wrap .u64 (nr_2 - 1))))))))))))

def sQ24 (N : Nat) : TSQ24 := GQ24 N (sQ64 N) (sQ122 N) (sQ61 N)

abbrev TSQ23 : Type := Int -> Int -> Int -> Int -> (Int -> Bool) -> Bool

def GQ23 (N : Nat) (SQ24 : TSQ24) (b f_0 f_1 f_2 : Int) (k0 : Int -> Bool) : Bool :=
  (SQ24 b f_0 f_1 f_2 (fun cr nr nr_1 => (cond ((nr == f_1) == true) (cond (nr_1 != 0) (k0 1) (cond (nr == f_1) (k0 2) (cond ((nr == 0) == true) (cond (nr_1 == 0) (k0 3) (cond (nr == 0) (k0 4) (k0 5))) (cond (nr == 0) (k0 4) (k0 5))))) (cond (nr == f_1) (k0 2) (cond ((nr == 0) == true) (cond (nr_1 == 0) (k0 3) (cond (nr == 0) (k0 4) (k0 5))) (cond (nr == 0) (k0 4) (k0 5)))))))

def sQ23 (N : Nat) : TSQ23 := GQ23 N (sQ24 N)

abbrev TSQ129 : Type := Nat -> (Int -> Bool) -> Bool

def GQ129 (N : Nat) (SQ121 : TSQ121) (S_an_of : TS_an_of) (SQ23 : TSQ23) (x : Nat) (k0 : Int -> Bool) : Bool :=
  (SQ121 x (fun nr => (S_an_of (fun nr_1 nr_2 nr_3 => (SQ23 nr nr_1 nr_2 nr_3 (fun nr_4 => (k0 nr_4)))))))

def sQ129 (N : Nat) : TSQ129 := GQ129 N (sQ121 N) (s_an_of N) (sQ23 N)

abbrev TSQ75 : Type := Int -> (Fl -> Bool) -> Bool

def sQ75 (N : Nat) : TSQ75 := fun n k => k (canon n.toNat)

abbrev TSQ144 : Type := Nat -> (Fl -> Bool) -> Bool

def GQ144 (N : Nat) (SQ121 : TSQ121) (SQ75 : TSQ75) (x : Nat) (k0 : Fl -> Bool) : Bool :=
  (SQ121 x (fun nr => (SQ75 (bitsN .andNot .u64 nr 9223372036854775808) (fun xr => (k0 xr)))))

def sQ144 (N : Nat) : TSQ144 := GQ144 N (sQ121 N) (sQ75 N)

abbrev TSQ41 : Type := List Fl -> (Bool -> Bool) -> Bool

def st_quat_finite_0 (N : Nat) (l_1 : List Fl) (t5 : Int) (e0 : Bool -> Bool) (e1 : Bool) : (Int) -> ((Int) -> Bool) -> Bool := fun v_ K => match v_ with
  | t6 => (cond (decide (t6 < t5)) ((inR t6 (List.length l_1)) && ((inR t6 (List.length l_1)) && (cond (!feq (fsub (List.getD l_1 (Int.toNat t6) none) (List.getD l_1 (Int.toNat t6) none)) (some 0)) (e0 false) ((fits .i64 (t6 + 1)) && (K (t6 + 1)))))) e1)

def GQ41 (N : Nat) (l : List Fl) (k0 : Bool -> Bool) : Bool :=
  (iterG N (st_quat_finite_0 N l (((List.length l) : Nat) : Int) (fun t2 => (k0 t2)) (k0 true)) 0)

def sQ41 (N : Nat) : TSQ41 := GQ41 N

abbrev TSQ10 : Type := Fl -> Fl -> Fl -> Fl -> (Bool -> Bool) -> Bool

def GQ10 (N : Nat) (SQ41 : TSQ41) (qs_0 qs_1 qs_2 qs_3 : Fl) (k0 : Bool -> Bool) : Bool :=
  (SQ41 [qs_0, qs_1, qs_2, qs_3] (fun cr => (cond (!cr) (k0 false) (k0 true))))

def sQ10 (N : Nat) : TSQ10 := GQ10 (N + 24) (sQ41 N)

abbrev TSQ52 : Type := Fl -> Fl -> Fl -> Fl -> (Bool) -> Bool

def GQ52 (N : Nat) (q_0 q_1 q_2 q_3 : Fl) (k0 : Bool) : Bool :=
  k0

def sQ52 (N : Nat) : TSQ52 := GQ52 N

abbrev TS_m_Abs : Type := Fl -> (Fl -> Bool) -> Bool

def s_m_Abs (N : Nat) : TS_m_Abs := fun x k => k (absF x)

abbrev TSQ101 : Type := Fl -> Int -> (Bool -> Bool) -> Bool

def GQ101 (N : Nat) (S_m_Abs : TS_m_Abs) (f : Fl) (sign : Int) (k0 : Bool -> Bool) : Bool :=
  (cond (sign == 0) (S_m_Abs f (fun xr => (k0 (fgt xr (some 9218868437227405311))))) (cond (decide (sign < 0)) (k0 (fgt (fneg f) (some 9218868437227405311))) (k0 (fgt f (some 9218868437227405311)))))

def sQ101 (N : Nat) : TSQ101 := GQ101 N (s_m_Abs N)

abbrev TSQ106 : Type := Fl -> (Bool -> Bool) -> Bool

def GQ106 (N : Nat) (f : Fl) (k0 : Bool -> Bool) : Bool :=
  (k0 (!feq f f))

def sQ106 (N : Nat) : TSQ106 := GQ106 N

abbrev TSQ57 : Type := Fl -> (Fl -> Int -> Bool) -> Bool

def GQ57 (N : Nat) (S_m_Abs : TS_m_Abs) (x : Fl) (k0 : Fl -> Int -> Bool) : Bool :=
  (S_m_Abs x (fun xr => (cond (flt xr (some 4503599627370496)) (k0 (fmul x (some 4841369599423283200)) (-52)) (k0 x 0))))

def sQ57 (N : Nat) : TSQ57 := GQ57 N (s_m_Abs N)

abbrev TSQ96 : Type := Fl -> (Int -> Bool) -> Bool

def sQ96 (N : Nat) : TSQ96 := fun x k => match x with | some b => k b | none => false

abbrev TSQ140 : Type := Fl -> (Fl -> Int -> Bool) -> Bool

def GQ140 (N : Nat) (SQ101 : TSQ101) (SQ106 : TSQ106) (SQ57 : TSQ57) (SQ96 : TSQ96) (SQ75 : TSQ75) (f : Fl) (k0 : Fl -> Int -> Bool) : Bool :=
  (cond (feq f (some 0)) (k0 f 0) (SQ101 f 0 (fun cr => (cond (cr == false) (SQ106 f (fun cr_1 => (cond cr_1 (k0 f 0) (SQ57 f (fun xr nr => (SQ96 xr (fun nr_1 => ((fits .i64 (bitsN .and .u64 (Int.fdiv nr_1 (2 ^ 52)) 2047)) && ((fits .i64 ((bitsN .and .u64 (Int.fdiv nr_1 (2 ^ 52)) 2047) - 1023)) && ((fits .i64 (((bitsN .and .u64 (Int.fdiv nr_1 (2 ^ 52)) 2047) - 1023) + 1)) && ((fits .i64 (nr + (((bitsN .and .u64 (Int.fdiv nr_1 (2 ^ 52)) 2047) - 1023) + 1))) && (SQ75 (bitsN .or .u64 (bitsN .andNot .u64 nr_1 9218868437227405312) 4602678819172646912) (fun xr_1 => (k0 xr_1 (nr + (((bitsN .and .u64 (Int.fdiv nr_1 (2 ^ 52)) 2047) - 1023) + 1)))))))))))))))) (k0 f 0)))))

def sQ140 (N : Nat) : TSQ140 := GQ140 N (sQ101 N) (sQ106 N) (sQ57 N) (sQ96 N) (sQ75 N)

abbrev TSQ134 : Type := Fl -> (Fl -> Int -> Bool) -> Bool

def GQ134 (N : Nat) (SQ140 : TSQ140) (f : Fl) (k0 : Fl -> Int -> Bool) : Bool :=
  (SQ140 f (fun xr nr => (k0 xr nr)))

def sQ134 (N : Nat) : TSQ134 := GQ134 N (sQ140 N)

abbrev TSQ82 : Type := Fl -> Fl -> (Fl -> Bool) -> Bool

def GQ82 (N : Nat) (SQ96 : TSQ96) (SQ75 : TSQ75) (f sign : Fl) (k0 : Fl -> Bool) : Bool :=
  (SQ96 f (fun nr => (SQ96 sign (fun nr_1 => (SQ75 (bitsN .or .u64 (bitsN .andNot .u64 nr 9223372036854775808) (bitsN .and .u64 nr_1 9223372036854775808)) (fun xr => (k0 xr)))))))

def sQ82 (N : Nat) : TSQ82 := GQ82 N (sQ96 N) (sQ75 N)

abbrev TS_m_Inf : Type := Int -> (Fl -> Bool) -> Bool

def J_m_Inf_0 (N : Nat) (SQ75 : TSQ75) (sign v : Int) (k0 : Fl -> Bool) : Bool :=
  (SQ75 v (fun xr => (k0 xr)))

def G_m_Inf (N : Nat) (SQ75 : TSQ75) (sign : Int) (k0 : Fl -> Bool) : Bool :=
  (cond (decide (sign >= 0)) (J_m_Inf_0 N SQ75 sign 9218868437227405312 k0) (J_m_Inf_0 N SQ75 sign 18442240474082181120 k0))

def s_m_Inf (N : Nat) : TS_m_Inf := G_m_Inf N (sQ75 N)

abbrev TSQ133 : Type := Fl -> Int -> (Fl -> Bool) -> Bool

def JQ160 (N : Nat) (SQ101 : TSQ101) (SQ106 : TSQ106) (SQ57 : TSQ57) (SQ96 : TSQ96) (SQ82 : TSQ82) (S_m_Inf : TS_m_Inf) (SQ75 : TSQ75) (frac : Fl) (exp exp_1 x : Int) (m : Fl) (k0 : Fl -> Bool) : Bool :=
  ((fits .i64 (exp_1 + 1023)) && (SQ75 (bitsN .or .u64 (bitsN .andNot .u64 x 9218868437227405312) (IntKind.wrap .u64 ((IntKind.wrap .u64 (exp_1 + 1023)) * 2 ^ 52))) (fun xr_4 => (k0 (fmul m xr_4)))))

def GQ133 (N : Nat) (SQ101 : TSQ101) (SQ106 : TSQ106) (SQ57 : TSQ57) (SQ96 : TSQ96) (SQ82 : TSQ82) (S_m_Inf : TS_m_Inf) (SQ75 : TSQ75) (frac : Fl) (exp : Int) (k0 : Fl -> Bool) : Bool :=
  (cond (feq frac (some 0)) (k0 frac) (SQ101 frac 0 (fun cr => (cond (cr == false) (SQ106 frac (fun cr_1 => (cond cr_1 (k0 frac) (SQ57 frac (fun xr nr => ((fits .i64 (exp + nr)) && (SQ96 xr (fun nr_1 => ((fits .i64 (Int.fdiv nr_1 (2 ^ 52))) && ((fits .i64 ((bitsN .and .i64 (Int.fdiv nr_1 (2 ^ 52)) 2047) - 1023)) && ((fits .i64 ((exp + nr) + ((bitsN .and .i64 (Int.fdiv nr_1 (2 ^ 52)) 2047) - 1023))) && (cond (decide (((exp + nr) + ((bitsN .and .i64 (Int.fdiv nr_1 (2 ^ 52)) 2047) - 1023)) < (-1075))) (SQ82 (some 0) xr (fun xr_1 => (k0 xr_1))) (cond (decide (((exp + nr) + ((bitsN .and .i64 (Int.fdiv nr_1 (2 ^ 52)) 2047) - 1023)) > 1023)) (cond (flt xr (some 0)) (S_m_Inf (-1) (fun xr_2 => (k0 xr_2))) (S_m_Inf 1 (fun xr_3 => (k0 xr_3)))) (cond (decide (((exp + nr) + ((bitsN .and .i64 (Int.fdiv nr_1 (2 ^ 52)) 2047) - 1023)) < (-1022))) ((fits .i64 (((exp + nr) + ((bitsN .and .i64 (Int.fdiv nr_1 (2 ^ 52)) 2047) - 1023)) + 53)) && (JQ160 N SQ101 SQ106 SQ57 SQ96 SQ82 S_m_Inf SQ75 frac exp (((exp + nr) + ((bitsN .and .i64 (Int.fdiv nr_1 (2 ^ 52)) 2047) - 1023)) + 53) nr_1 (some 4368491638549381120) k0)) (JQ160 N SQ101 SQ106 SQ57 SQ96 SQ82 S_m_Inf SQ75 frac exp ((exp + nr) + ((bitsN .and .i64 (Int.fdiv nr_1 (2 ^ 52)) 2047) - 1023)) nr_1 (some 4607182418800017408) k0))))))))))))))) (k0 frac)))))

def sQ133 (N : Nat) : TSQ133 := GQ133 N (sQ101 N) (sQ106 N) (sQ57 N) (sQ96 N) (sQ82 N) (s_m_Inf N) (sQ75 N)

abbrev TSQ102 : Type := Fl -> Int -> (Fl -> Bool) -> Bool

def GQ102 (N : Nat) (SQ133 : TSQ133) (frac : Fl) (exp : Int) (k0 : Fl -> Bool) : Bool :=
  (SQ133 frac exp (fun xr => (k0 xr)))

def sQ102 (N : Nat) : TSQ102 := GQ102 N (sQ133 N)

abbrev TSQ150 : Type := Fl -> (Fl -> Bool) -> Bool

def sQ150 (N : Nat) : TSQ150 := fun x k => k (fsqrt x)

abbrev TSQ143 : Type := Fl -> (Fl -> Bool) -> Bool

def GQ143 (N : Nat) (SQ150 : TSQ150) (x : Fl) (k0 : Fl -> Bool) : Bool :=
  (SQ150 x (fun xr => (k0 xr)))

def sQ143 (N : Nat) : TSQ143 := GQ143 N (sQ150 N)

abbrev TSQ117 : Type := Fl -> Fl -> Fl -> Fl -> (Bool) -> Bool

def GQ117 (N : Nat) (l_0 l_1 l_2 l_3 : Fl) (k0 : Bool) : Bool :=
  k0

def sQ117 (N : Nat) : TSQ117 := GQ117 N

abbrev TSQ114 : Type := Fl -> Fl -> Fl -> Fl -> (Fl -> Fl -> Fl -> Fl -> Int -> Bool) -> Bool

def GQ114 (N : Nat) (SQ10 : TSQ10) (SQ52 : TSQ52) (S_m_Abs : TS_m_Abs) (SQ134 : TSQ134) (SQ102 : TSQ102) (SQ143 : TSQ143) (SQ117 : TSQ117) (q_0 q_1 q_2 q_3 : Fl) (k0 : Fl -> Fl -> Fl -> Fl -> Int -> Bool) : Bool :=
  (SQ10 q_0 q_1 q_2 q_3 (fun cr => (cond (!cr) (k0 (some 0) (some 0) (some 0) (some 0) 4) (SQ52 q_0 q_1 q_2 q_3 (S_m_Abs q_0 (fun xr => (S_m_Abs q_1 (fun xr_1 => (S_m_Abs q_2 (fun xr_2 => (S_m_Abs q_3 (fun xr_3 => (cond (feq (fmm true (fmm true (fmm true (fmm true (some 0) xr) xr_1) xr_2) xr_3) (some 0)) (k0 (some 0) (some 0) (some 0) (some 0) 120) (SQ134 (fmm true (fmm true (fmm true (fmm true (some 0) xr) xr_1) xr_2) xr_3) (fun xr_4 nr => ((fits .i64 (1 - nr)) && (SQ102 q_0 (1 - nr) (fun xr_5 => ((fits .i64 (1 - nr)) && (SQ102 q_1 (1 - nr) (fun xr_6 => ((fits .i64 (1 - nr)) && (SQ102 q_2 (1 - nr) (fun xr_7 => ((fits .i64 (1 - nr)) && (SQ102 q_3 (1 - nr) (fun xr_8 => (SQ143 (fadd (fadd (fadd (fadd (some 0) (fmul xr_5 xr_5)) (fmul xr_6 xr_6)) (fmul xr_7 xr_7)) (fmul xr_8 xr_8)) (fun xr_9 => (SQ117 (fdiv xr_5 xr_9) (fdiv xr_6 xr_9) (fdiv xr_7 xr_9) (fdiv xr_8 xr_9) (k0 (fdiv xr_5 xr_9) (fdiv xr_6 xr_9) (fdiv xr_7 xr_9) (fdiv xr_8 xr_9) 0)))))))))))))))))))))))))))))))

def sQ114 (N : Nat) : TSQ114 := GQ114 (N + 24) (sQ10 N) (sQ52 N) (s_m_Abs N) (sQ134 N) (sQ102 N) (sQ143 N) (sQ117 N)

abbrev TSQ107 : Type := Fl -> Fl -> Fl -> Fl -> Fl -> Fl -> (Fl -> Fl -> Fl -> Bool) -> Bool

def GQ107 (N : Nat) (a_0 a_1 a_2 b_0 b_1 b_2 : Fl) (k0 : Fl -> Fl -> Fl -> Bool) : Bool :=
  (k0 (fsub (fmul a_1 b_2) (fmul a_2 b_1)) (fsub (fmul a_2 b_0) (fmul a_0 b_2)) (fsub (fmul a_0 b_1) (fmul a_1 b_0)))

def sQ107 (N : Nat) : TSQ107 := GQ107 N

abbrev TSQ126 : Type := Fl -> Fl -> Fl -> (Fl -> Fl -> Fl -> Int -> Bool) -> Bool

def GQ126 (N : Nat) (SQ41 : TSQ41) (v_0 v_1 v_2 : Fl) (k0 : Fl -> Fl -> Fl -> Int -> Bool) : Bool :=
  (SQ41 [v_0, v_1, v_2] (fun cr => (cond (!cr) (k0 (some 0) (some 0) (some 0) 5) (k0 v_0 v_1 v_2 0))))

def sQ126 (N : Nat) : TSQ126 := GQ126 N (sQ41 N)

abbrev TSQ81 : Type := Fl -> Fl -> Fl -> Fl -> Fl -> Fl -> Fl -> (Fl -> Fl -> Fl -> Int -> Bool) -> Bool

def GQ81 (N : Nat) (SQ10 : TSQ10) (SQ41 : TSQ41) (SQ107 : TSQ107) (SQ126 : TSQ126) (q_0 q_1 q_2 q_3 v_0 v_1 v_2 : Fl) (k0 : Fl -> Fl -> Fl -> Int -> Bool) : Bool :=
  (SQ10 q_0 q_1 q_2 q_3 (fun cr => (cond ((!cr) == false) (SQ41 [v_0, v_1, v_2] (fun cr_1 => (cond (!cr_1) (k0 (some 0) (some 0) (some 0) 4) (SQ107 q_1 q_2 q_3 v_0 v_1 v_2 (fun xr xr_1 xr_2 => (SQ107 q_1 q_2 q_3 (fmul xr (some 4611686018427387904)) (fmul xr_1 (some 4611686018427387904)) (fmul xr_2 (some 4611686018427387904)) (fun xr_3 xr_4 xr_5 => (SQ126 (fadd (fadd v_0 (fmul q_0 (fmul xr (some 4611686018427387904)))) xr_3) (fadd (fadd v_1 (fmul q_0 (fmul xr_1 (some 4611686018427387904)))) xr_4) (fadd (fadd v_2 (fmul q_0 (fmul xr_2 (some 4611686018427387904)))) xr_5) (fun xr_6 xr_7 xr_8 nr => (k0 xr_6 xr_7 xr_8 nr)))))))))) (k0 (some 0) (some 0) (some 0) 4))))

def sQ81 (N : Nat) : TSQ81 := GQ81 (N + 24) (sQ10 N) (sQ41 N) (sQ107 N) (sQ126 N)

abbrev TSQ91 : Type := Fl -> Fl -> Fl -> Fl -> Fl -> Fl -> Fl -> Fl -> (Bool -> Bool) -> Bool

def GQ91 (N : Nat) (SQ41 : TSQ41) (qs_0 qs_1 qs_2 qs_3 qs_4 qs_5 qs_6 qs_7 : Fl) (k0 : Bool -> Bool) : Bool :=
  (SQ41 [qs_0, qs_1, qs_2, qs_3] (fun cr => (cond (!cr) (k0 false) (SQ41 [qs_4, qs_5, qs_6, qs_7] (fun cr_1 => (cond (!cr_1) (k0 false) (k0 true)))))))

def sQ91 (N : Nat) : TSQ91 := GQ91 (N + 24) (sQ41 N)

abbrev TSQ131 : Type := Fl -> Fl -> Fl -> Fl -> Fl -> Fl -> Fl -> Fl -> (Fl -> Fl -> Fl -> Fl -> Bool) -> Bool

def GQ131 (N : Nat) (a_0 a_1 a_2 a_3 b_0 b_1 b_2 b_3 : Fl) (k0 : Fl -> Fl -> Fl -> Fl -> Bool) : Bool :=
  (k0 (fsub (fsub (fsub (fmul a_0 b_0) (fmul a_1 b_1)) (fmul a_2 b_2)) (fmul a_3 b_3)) (fsub (fadd (fadd (fmul a_0 b_1) (fmul a_1 b_0)) (fmul a_2 b_3)) (fmul a_3 b_2)) (fadd (fadd (fsub (fmul a_0 b_2) (fmul a_1 b_3)) (fmul a_2 b_0)) (fmul a_3 b_1)) (fadd (fsub (fadd (fmul a_0 b_3) (fmul a_1 b_2)) (fmul a_2 b_1)) (fmul a_3 b_0)))

def sQ131 (N : Nat) : TSQ131 := GQ131 N

abbrev TSQ118 : Type := Fl -> Fl -> Fl -> Fl -> (Fl -> Fl -> Fl -> Fl -> Int -> Bool) -> Bool

def GQ118 (N : Nat) (SQ10 : TSQ10) (q_0 q_1 q_2 q_3 : Fl) (k0 : Fl -> Fl -> Fl -> Fl -> Int -> Bool) : Bool :=
  (SQ10 q_0 q_1 q_2 q_3 (fun cr => (cond (!cr) (k0 (some 0) (some 0) (some 0) (some 0) 5) (k0 q_0 q_1 q_2 q_3 0))))

def sQ118 (N : Nat) : TSQ118 := GQ118 N (sQ10 N)

abbrev TSQ130 : Type := Fl -> Fl -> Fl -> Fl -> Fl -> Fl -> Fl -> Fl -> (Fl -> Fl -> Fl -> Fl -> Int -> Bool) -> Bool

def GQ130 (N : Nat) (SQ91 : TSQ91) (SQ131 : TSQ131) (SQ118 : TSQ118) (a_0 a_1 a_2 a_3 b_0 b_1 b_2 b_3 : Fl) (k0 : Fl -> Fl -> Fl -> Fl -> Int -> Bool) : Bool :=
  (SQ91 a_0 a_1 a_2 a_3 b_0 b_1 b_2 b_3 (fun cr => (cond (!cr) (k0 (some 0) (some 0) (some 0) (some 0) 4) (SQ131 a_0 a_1 a_2 a_3 b_0 b_1 b_2 b_3 (fun xr xr_1 xr_2 xr_3 => (SQ118 xr xr_1 xr_2 xr_3 (fun xr_4 xr_5 xr_6 xr_7 nr => (k0 xr_4 xr_5 xr_6 xr_7 nr))))))))

def sQ130 (N : Nat) : TSQ130 := GQ130 N (sQ91 N) (sQ131 N) (sQ118 N)

abbrev TSQ115 : Type := Fl -> (Int -> Bool) -> Bool

def sQ115 (N : Nat) : TSQ115 := fun x k => k (clsF x)

abbrev TSQ85 : Type := List Fl -> (Bool -> Bool) -> Bool

def st_an_Finite_0 (N : Nat) (SQ115 : TSQ115) (t6 : List Fl) (t7 : Int) (e0 : Bool -> Bool) (e1 : Bool) : (Int) -> ((Int) -> Bool) -> Bool := fun v_ K => match v_ with
  | t8 => (cond (decide (t8 < t7)) ((inR t8 (List.length t6)) && (SQ115 (List.getD t6 (Int.toNat t8) none) (fun nr => (cond ((nr == 1) == false) (cond (nr == 2) (e0 false) ((fits .i64 (t8 + 1)) && (K (t8 + 1)))) (e0 false))))) e1)

def GQ85 (N : Nat) (SQ115 : TSQ115) (l : List Fl) (k0 : Bool -> Bool) : Bool :=
  (iterG N (st_an_Finite_0 N SQ115 l (((List.length l) : Nat) : Int) (fun t2 => (k0 t2)) (k0 true)) 0)

def sQ85 (N : Nat) : TSQ85 := GQ85 N (sQ115 N)

abbrev TSQ6 : Type := Int -> (Int -> Bool) -> Bool

def GQ6 (N : Nat) (x : Int) (k0 : Int -> Bool) : Bool :=
  (cond (x == 0) (k0 64) ((inR (Int.fdiv (IntKind.wrap .u64 ((bitsN .and .u64 x (IntKind.wrap .u64 (0 - x))) * 285870213051353865)) (2 ^ 58)) 64) && ((fits .i64 (List.getD tab64 (Int.toNat (Int.fdiv (IntKind.wrap .u64 ((bitsN .and .u64 x (IntKind.wrap .u64 (0 - x))) * 285870213051353865)) (2 ^ 58))) 0)) && (k0 (List.getD tab64 (Int.toNat (Int.fdiv (IntKind.wrap .u64 ((bitsN .and .u64 x (IntKind.wrap .u64 (0 - x))) * 285870213051353865)) (2 ^ 58))) 0)))))

def sQ6 (N : Nat) : TSQ6 := GQ6 N

abbrev TSQ58 : Type := Int -> Int -> Int -> Int -> (Bool -> Int -> Int -> Int -> Bool) -> Bool

def JQ141 (N : Nat) (SQ24 : TSQ24) (SQ23 : TSQ23) (SQ61 : TSQ61) (SQ6 : TSQ6) (b f_0 f_1 f_2 : Int) (p : Bool) (p_1 p_2 : Int) (k0 : Bool -> Int -> Int -> Int -> Bool) : Bool :=
  (SQ6 p_1 (fun nr_4 => ((decide (0 <= nr_4)) && ((fits .i64 (p_2 + nr_4)) && (k0 p (Int.fdiv p_1 (2 ^ (min (Int.toNat nr_4) 64))) (p_2 + nr_4) 0)))))

def GQ58 (N : Nat) (SQ24 : TSQ24) (SQ23 : TSQ23) (SQ61 : TSQ61) (SQ6 : TSQ6) (b f_0 f_1 f_2 : Int) (k0 : Bool -> Int -> Int -> Int -> Bool) : Bool :=
  (SQ24 b f_0 f_1 f_2 (fun cr nr nr_1 => ((fits .i64 (nr - f_2)) && (SQ23 b f_0 f_1 f_2 (fun nr_2 => (cond (nr_2 == 1) (k0 false 0 0 4) (cond (nr_2 == 2) (k0 false 0 0 4) (cond (nr_2 == 3) (k0 cr 0 0 0) (cond (nr_2 == 4) ((fits .i64 ((nr - f_2) + 1)) && (JQ141 N SQ24 SQ23 SQ61 SQ6 b f_0 f_1 f_2 cr nr_1 ((nr - f_2) + 1) k0)) (SQ61 f_0 f_1 f_2 (fun nr_3 => (JQ141 N SQ24 SQ23 SQ61 SQ6 b f_0 f_1 f_2 cr (bitsN .or .u64 nr_1 nr_3) (nr - f_2) k0))))))))))))

def sQ58 (N : Nat) : TSQ58 := GQ58 N (sQ24 N) (sQ23 N) (sQ61 N) (sQ6 N)

abbrev TSQ127 : Type := Fl -> (Bool -> Int -> Int -> Int -> Bool) -> Bool

def GQ127 (N : Nat) (SQ96 : TSQ96) (S_an_of : TS_an_of) (SQ58 : TSQ58) (x : Fl) (k0 : Bool -> Int -> Int -> Int -> Bool) : Bool :=
  (SQ96 x (fun nr => (S_an_of (fun nr_1 nr_2 nr_3 => (SQ58 nr nr_1 nr_2 nr_3 (fun cr nr_4 nr_5 nr_6 => (k0 cr nr_4 nr_5 nr_6)))))))

def sQ127 (N : Nat) : TSQ127 := GQ127 N (sQ96 N) (s_an_of N) (sQ58 N)

abbrev TSQ1 : Type := List Int -> (Nat -> Nat -> Bool) -> Bool

def stQ159 (N : Nat) (x : List Int) (e0 : Int -> Bool) : (Int) -> ((Int) -> Bool) -> Bool := fun v_ K => match v_ with
  | n => (cond ((decide (n > 0)) == true) ((fits .i64 (n - 1)) && ((inR (n - 1) (List.length x)) && ((decide ((Int.toNat (n - 1)) < (List.length x))) && (cond ((List.getD x (Int.toNat (n - 1)) 0) == 0) ((fits .i64 (n - 1)) && (K (n - 1))) (e0 n))))) (e0 n))

def GQ1 (N : Nat) (b : List Int) (k0 : Nat -> Nat -> Bool) : Bool :=
  (iterG N (stQ159 N b (fun n_1 => ((decide (0 <= n_1 /\ n_1 <= (((List.length b) : Nat) : Int))) && (k0 0 ((Int.toNat n_1) - 0))))) (((List.length b) : Nat) : Int))

def sQ1 (N : Nat) : TSQ1 := GQ1 N

abbrev TSQ104 : Type := Int -> (List Int -> Bool) -> Bool

def GQ104 (N : Nat) (SQ1 : TSQ1) (n : Int) (k0 : List Int -> Bool) : Bool :=
  (SQ1 [n] (fun mr mr_1 => ((decide ((mr + mr_1) <= (List.length [n]))) && (k0 (List.take mr_1 (List.drop mr [n]))))))

def sQ104 (N : Nat) : TSQ104 := GQ104 N (sQ1 N)

abbrev TSQ0 : Type := Bool -> List Int -> Bool -> (Bool -> Bool) -> Bool

def GQ0 (N : Nat) (neg : Bool) (abs : List Int) (b : Bool) (k0 : Bool -> Bool) : Bool :=
  (cond (neg == true) (k0 (decide ((((List.length abs) : Nat) : Int) > 0))) (k0 false))

def sQ0 (N : Nat) : TSQ0 := GQ0 N

abbrev TSQ45 : Type := Int -> Bool -> (Bool -> List Int -> Bool) -> Bool

def GQ45 (N : Nat) (SQ104 : TSQ104) (SQ0 : TSQ0) (n : Int) (b : Bool) (k0 : Bool -> List Int -> Bool) : Bool :=
  (SQ104 n (fun nsr => (SQ0 false nsr b (fun cr => (k0 cr nsr)))))

def sQ45 (N : Nat) : TSQ45 := GQ45 N (sQ104 N) (sQ0 N)

abbrev TSQ63 : Type := List Int -> (List Int -> Bool) -> Bool

def GQ63 (N : Nat) (x : List Int) (k0 : List Int -> Bool) : Bool :=
  ((decide ((List.length ([] ++ x)) * 8 <= 140737488355328)) && (k0 ([] ++ x)))

def sQ63 (N : Nat) : TSQ63 := GQ63 N

abbrev TSQ27 : Type := Bool -> List Int -> Bool -> List Int -> (Bool -> Bool) -> Bool

def GQ27 (N : Nat) (neg : Bool) (abs : List Int) (b : Bool) (b_1 : List Int) (k0 : Bool -> Bool) : Bool :=
  (cond (neg == true) (k0 (decide ((((List.length abs) : Nat) : Int) > 0))) (k0 false))

def sQ27 (N : Nat) : TSQ27 := GQ27 N

abbrev TSQ20 : Type := Bool -> List Int -> (Bool -> List Int -> Bool) -> Bool

def GQ20 (N : Nat) (SQ63 : TSQ63) (SQ27 : TSQ27) (b : Bool) (b_1 : List Int) (k0 : Bool -> List Int -> Bool) : Bool :=
  (SQ63 b_1 (fun nsr => (SQ27 (!b) nsr b b_1 (fun cr => (k0 cr nsr)))))

def sQ20 (N : Nat) : TSQ20 := GQ20 N (sQ63 N) (sQ27 N)

abbrev TSQ120 : Type := Fl -> (Int -> Bool -> List Int -> Bool) -> Bool

def GQ120 (N : Nat) (SQ127 : TSQ127) (SQ45 : TSQ45) (SQ20 : TSQ20) (x : Fl) (k0 : Int -> Bool -> List Int -> Bool) : Bool :=
  (SQ127 x (fun cr nr nr_1 nr_2 => (SQ45 nr false (fun cr_1 nsr => (cond cr (SQ20 cr_1 nsr (fun cr_2 nsr_1 => (k0 nr_1 cr_2 nsr_1))) (k0 nr_1 cr_1 nsr))))))

def sQ120 (N : Nat) : TSQ120 := GQ120 N (sQ127 N) (sQ45 N) (sQ20 N)

abbrev TSQ86 : Type := Int -> Int -> (Int -> Int -> Bool) -> Bool

def GQ86 (N : Nat) (x y : Int) (k0 : Int -> Int -> Bool) : Bool :=
  (k0 (IntKind.wrap .u64 ((IntKind.wrap .u64 ((IntKind.wrap .u64 ((Int.fdiv x (2 ^ 32)) * (Int.fdiv y (2 ^ 32)))) + (Int.fdiv (IntKind.wrap .u64 ((IntKind.wrap .u64 ((Int.fdiv x (2 ^ 32)) * (bitsN .and .u64 y 4294967295))) + (Int.fdiv (IntKind.wrap .u64 ((bitsN .and .u64 x 4294967295) * (bitsN .and .u64 y 4294967295))) (2 ^ 32)))) (2 ^ 32)))) + (Int.fdiv (IntKind.wrap .u64 ((bitsN .and .u64 (IntKind.wrap .u64 ((IntKind.wrap .u64 ((Int.fdiv x (2 ^ 32)) * (bitsN .and .u64 y 4294967295))) + (Int.fdiv (IntKind.wrap .u64 ((bitsN .and .u64 x 4294967295) * (bitsN .and .u64 y 4294967295))) (2 ^ 32)))) 4294967295) + (IntKind.wrap .u64 ((bitsN .and .u64 x 4294967295) * (Int.fdiv y (2 ^ 32)))))) (2 ^ 32)))) (IntKind.wrap .u64 (x * y)))

def sQ86 (N : Nat) : TSQ86 := GQ86 N

abbrev TSQ59 : Type := Int -> Int -> Int -> (Int -> Int -> Bool) -> Bool

def sQ59 (N : Nat) : TSQ59 := fun x y c k => (decide (c.toNat <= 1)) && k (((x.toNat + y.toNat + c.toNat) % 18446744073709551616 : Nat) : Int) (((x.toNat + y.toNat + c.toNat) / 18446744073709551616 : Nat) : Int)

abbrev TSQ83 : Type := Int -> Int -> Int -> Int -> (Int -> Int -> Bool) -> Bool

def GQ83 (N : Nat) (SQ86 : TSQ86) (SQ59 : TSQ59) (a b c d : Int) (k0 : Int -> Int -> Bool) : Bool :=
  (SQ86 a b (fun nr nr_1 => (SQ59 nr_1 c 0 (fun nr_2 nr_3 => (SQ59 nr_2 d 0 (fun nr_4 nr_5 => (k0 (IntKind.wrap .u64 ((IntKind.wrap .u64 (nr + nr_3)) + nr_5)) nr_4)))))))

def sQ83 (N : Nat) : TSQ83 := GQ83 N (sQ86 N) (sQ59 N)

abbrev TSQ110 : Type := List Int -> List Int -> (List Int -> Bool) -> Bool

def st_big_times_2 (N : Nat) (SQ83 : TSQ83) (SQ1 : TSQ1) (y_2 : List Int) (i a : Int) (t25_1 : List Int) (t26_1 t27_1 : Int) (t32 : List Int) (t33 : Int) (e0 : Int -> List Int -> Bool) : (Int × Int × List Int) -> ((Int × Int × List Int) -> Bool) -> Bool := fun v_ K => match v_ with
  | (carry, t34, z_1) => (cond (decide (t34 < t33)) ((inR t34 (List.length t32)) && ((fits .i64 (i + t34)) && ((fits .i64 (i + t34)) && ((inR (i + t34) (List.length z_1)) && ((decide ((Int.toNat (i + t34)) < (List.length z_1))) && (SQ83 a (List.getD t32 (Int.toNat t34) 0) (List.getD z_1 (Int.toNat (i + t34)) 0) carry (fun nr nr_1 => ((inR (i + t34) (List.length z_1)) && ((decide ((Int.toNat (i + t34)) < (List.length z_1))) && ((fits .i64 (t34 + 1)) && (K (nr, (t34 + 1), (List.set z_1 (Int.toNat (i + t34)) nr_1))))))))))))) (e0 carry z_1))

def st_big_times_0 (N : Nat) (SQ83 : TSQ83) (SQ1 : TSQ1) (y_1 t25 : List Int) (t26 : Int) (e0 : List Int -> Bool) : (Int × List Int) -> ((Int × List Int) -> Bool) -> Bool := fun v_ K => match v_ with
  | (t27, z) => (cond (decide (t27 < t26)) ((inR t27 (List.length t25)) && (iterG N (st_big_times_2 N SQ83 SQ1 y_1 t27 (List.getD t25 (Int.toNat t27) 0) t25 t26 t27 y_1 (((List.length y_1) : Nat) : Int) (fun carry_1 z_2 => ((fits .i64 (t27 + (((List.length y_1) : Nat) : Int))) && ((inR (t27 + (((List.length y_1) : Nat) : Int)) (List.length z_2)) && ((decide ((Int.toNat (t27 + (((List.length y_1) : Nat) : Int))) < (List.length z_2))) && ((fits .i64 (t27 + 1)) && (K ((t27 + 1), (List.set z_2 (Int.toNat (t27 + (((List.length y_1) : Nat) : Int))) carry_1))))))))) (0, 0, z))) (e0 z))

def GQ110 (N : Nat) (SQ83 : TSQ83) (SQ1 : TSQ1) (x y : List Int) (k0 : List Int -> Bool) : Bool :=
  (cond (((((List.length x) : Nat) : Int) == 0) == false) (cond ((((List.length y) : Nat) : Int) == 0) (k0 []) ((fits .i64 ((((List.length x) : Nat) : Int) + (((List.length y) : Nat) : Int))) && ((mkOk 8 ((((List.length x) : Nat) : Int) + (((List.length y) : Nat) : Int)) ((((List.length x) : Nat) : Int) + (((List.length y) : Nat) : Int))) && (iterG N (st_big_times_0 N SQ83 SQ1 y x (((List.length x) : Nat) : Int) (fun z_3 => (SQ1 z_3 (fun mr mr_1 => ((decide ((mr + mr_1) <= (List.length z_3))) && (k0 (List.take mr_1 (List.drop mr z_3)))))))) (0, (List.replicate (Int.toNat ((((List.length x) : Nat) : Int) + (((List.length y) : Nat) : Int))) (0 : Int))))))) (k0 []))

def sQ110 (N : Nat) : TSQ110 := GQ110 N (sQ83 N) (sQ1 N)

abbrev TSQ47 : Type := Bool -> Bool -> List Int -> Bool -> List Int -> (Bool -> List Int -> Bool) -> Bool

def GQ47 (N : Nat) (SQ110 : TSQ110) (SQ0 : TSQ0) (b b_1 : Bool) (b_2 : List Int) (b_3 : Bool) (b_4 : List Int) (k0 : Bool -> List Int -> Bool) : Bool :=
  (SQ110 b_2 b_4 (fun nsr => (SQ0 (b_1 != b_3) nsr b (fun cr => (k0 cr nsr)))))

def sQ47 (N : Nat) : TSQ47 := GQ47 N (sQ110 N) (sQ0 N)

abbrev TSQ12 : Type := Int -> Int -> Bool -> List Int -> Bool -> List Int -> (Int -> Bool -> List Int -> Bool) -> Bool

def GQ12 (N : Nat) (SQ47 : TSQ47) (x y : Int) (b : Bool) (b_1 : List Int) (b_2 : Bool) (b_3 : List Int) (k0 : Int -> Bool -> List Int -> Bool) : Bool :=
  (SQ47 false b b_1 b_2 b_3 (fun cr nsr => ((fits .i64 (x + y)) && (k0 (x + y) cr nsr))))

def sQ12 (N : Nat) : TSQ12 := GQ12 N (sQ47 N)

abbrev TSQ67 : Type := Bool -> (Int -> List Int -> Bool) -> Bool

def GQ67 (N : Nat) (b : Bool) (k0 : Int -> List Int -> Bool) : Bool :=
  (cond b (k0 (-1) []) (k0 0 []))

def sQ67 (N : Nat) : TSQ67 := GQ67 N

abbrev TSQ4 : Type := Bool -> List Int -> (Int -> Bool) -> Bool

def GQ4 (N : Nat) (b : Bool) (b_1 : List Int) (k0 : Int -> Bool) : Bool :=
  (cond b (k0 (-1)) (cond ((((List.length b_1) : Nat) : Int) == 0) (k0 0) (k0 1)))

def sQ4 (N : Nat) : TSQ4 := GQ4 N

abbrev TSQ84 : Type := List Int -> Int -> (List Int -> Bool) -> Bool

def st_big_left_0 (N : Nat) (SQ1 : TSQ1) (words rest : Int) (t24 : List Int) (t25 : Int) (e0 : List Int -> Bool) : (Int × List Int) -> ((Int × List Int) -> Bool) -> Bool := fun v_ K => match v_ with
  | (t26, z) => (cond (decide (t26 < t25)) ((inR t26 (List.length t24)) && ((fits .i64 (words + t26)) && ((inR (words + t26) (List.length z)) && ((decide ((Int.toNat (words + t26)) < (List.length z))) && ((decide (0 <= rest)) && ((inR (words + t26) (List.length z)) && ((decide ((Int.toNat (words + t26)) < (List.length z))) && ((fits .i64 (words + t26)) && ((fits .i64 ((words + t26) + 1)) && ((decide (0 <= (IntKind.wrap .u64 (64 - rest)))) && ((inR ((words + t26) + 1) (List.length (List.set z (Int.toNat (words + t26)) (bitsN .or .u64 (List.getD z (Int.toNat (words + t26)) 0) (IntKind.wrap .u64 ((List.getD t24 (Int.toNat t26) 0) * 2 ^ (min (Int.toNat rest) 64))))))) && ((decide ((Int.toNat ((words + t26) + 1)) < (List.length (List.set z (Int.toNat (words + t26)) (bitsN .or .u64 (List.getD z (Int.toNat (words + t26)) 0) (IntKind.wrap .u64 ((List.getD t24 (Int.toNat t26) 0) * 2 ^ (min (Int.toNat rest) 64)))))))) && ((fits .i64 (t26 + 1)) && (K ((t26 + 1), (List.set (List.set z (Int.toNat (words + t26)) (bitsN .or .u64 (List.getD z (Int.toNat (words + t26)) 0) (IntKind.wrap .u64 ((List.getD t24 (Int.toNat t26) 0) * 2 ^ (min (Int.toNat rest) 64))))) (Int.toNat ((words + t26) + 1)) (Int.fdiv (List.getD t24 (Int.toNat t26) 0) (2 ^ (min (Int.toNat (IntKind.wrap .u64 (64 - rest))) 64))))))))))))))))))) (e0 z))

def GQ84 (N : Nat) (SQ1 : TSQ1) (x : List Int) (n : Int) (k0 : List Int -> Bool) : Bool :=
  (cond ((((List.length x) : Nat) : Int) == 0) (k0 []) ((fits .i64 (IntKind.wrap .u64 (Int.tdiv n 64))) && ((fits .i64 ((IntKind.wrap .u64 (Int.tdiv n 64)) + (((List.length x) : Nat) : Int))) && ((fits .i64 (((IntKind.wrap .u64 (Int.tdiv n 64)) + (((List.length x) : Nat) : Int)) + 1)) && ((mkOk 8 (((IntKind.wrap .u64 (Int.tdiv n 64)) + (((List.length x) : Nat) : Int)) + 1) (((IntKind.wrap .u64 (Int.tdiv n 64)) + (((List.length x) : Nat) : Int)) + 1)) && (iterG N (st_big_left_0 N SQ1 (IntKind.wrap .u64 (Int.tdiv n 64)) (Int.tmod n 64) x (((List.length x) : Nat) : Int) (fun z_1 => (SQ1 z_1 (fun mr mr_1 => ((decide ((mr + mr_1) <= (List.length z_1))) && (k0 (List.take mr_1 (List.drop mr z_1)))))))) (0, (List.replicate (Int.toNat (((IntKind.wrap .u64 (Int.tdiv n 64)) + (((List.length x) : Nat) : Int)) + 1)) (0 : Int)))))))))

def sQ84 (N : Nat) : TSQ84 := GQ84 N (sQ1 N)

abbrev TSQ56 : Type := Int -> Bool -> Bool -> List Int -> (Bool -> List Int -> Bool) -> Bool

def GQ56 (N : Nat) (SQ84 : TSQ84) (SQ0 : TSQ0) (n : Int) (b b_1 : Bool) (b_2 : List Int) (k0 : Bool -> List Int -> Bool) : Bool :=
  (SQ84 b_2 n (fun nsr => (SQ0 b_1 nsr b (fun cr => (k0 cr nsr)))))

def sQ56 (N : Nat) : TSQ56 := GQ56 N (sQ84 N) (sQ0 N)

abbrev TSQ28 : Type := Int -> Int -> Bool -> List Int -> (Bool -> List Int -> Bool) -> Bool

def GQ28 (N : Nat) (SQ56 : TSQ56) (x e : Int) (b : Bool) (b_1 : List Int) (k0 : Bool -> List Int -> Bool) : Bool :=
  ((fits .i64 (x - e)) && (SQ56 (IntKind.wrap .u64 (x - e)) false b b_1 (fun cr nsr => (k0 cr nsr))))

def sQ28 (N : Nat) : TSQ28 := GQ28 N (sQ56 N)

abbrev TSQ13 : Type := List Int -> Int -> (Int -> Bool) -> Bool

def GQ13 (N : Nat) (x : List Int) (i : Int) (k0 : Int -> Bool) : Bool :=
  (cond (decide (i < (((List.length x) : Nat) : Int))) ((inR i (List.length x)) && (k0 (List.getD x (Int.toNat i) 0))) (k0 0))

def sQ13 (N : Nat) : TSQ13 := GQ13 N

abbrev TSQ119 : Type := List Int -> List Int -> (List Int -> Bool) -> Bool

def st_big_sum_0 (N : Nat) (SQ13 : TSQ13) (SQ59 : TSQ59) (SQ1 : TSQ1) (x_1 y_1 : List Int) (n t17 : Int) (e0 : Int -> List Int -> Bool) : (Int × Int × List Int) -> ((Int × Int × List Int) -> Bool) -> Bool := fun v_ K => match v_ with
  | (carry, t18, z) => (cond (decide (t18 < t17)) (SQ13 x_1 t18 (fun nr => (SQ13 y_1 t18 (fun nr_1 => (SQ59 nr nr_1 carry (fun nr_2 nr_3 => ((inR t18 (List.length z)) && ((decide ((Int.toNat t18) < (List.length z))) && ((fits .i64 (t18 + 1)) && (K (nr_3, (t18 + 1), (List.set z (Int.toNat t18) nr_2)))))))))))) (e0 carry z))

def GQ119 (N : Nat) (SQ13 : TSQ13) (SQ59 : TSQ59) (SQ1 : TSQ1) (x y : List Int) (k0 : List Int -> Bool) : Bool :=
  ((fits .i64 ((imm true (((List.length x) : Nat) : Int) (((List.length y) : Nat) : Int)) + 1)) && ((mkOk 8 ((imm true (((List.length x) : Nat) : Int) (((List.length y) : Nat) : Int)) + 1) ((imm true (((List.length x) : Nat) : Int) (((List.length y) : Nat) : Int)) + 1)) && (iterG N (st_big_sum_0 N SQ13 SQ59 SQ1 x y (imm true (((List.length x) : Nat) : Int) (((List.length y) : Nat) : Int)) (imm true (((List.length x) : Nat) : Int) (((List.length y) : Nat) : Int)) (fun carry_1 z_1 => ((inR (imm true (((List.length x) : Nat) : Int) (((List.length y) : Nat) : Int)) (List.length z_1)) && ((decide ((Int.toNat (imm true (((List.length x) : Nat) : Int) (((List.length y) : Nat) : Int))) < (List.length z_1))) && (SQ1 (List.set z_1 (Int.toNat (imm true (((List.length x) : Nat) : Int) (((List.length y) : Nat) : Int))) carry_1) (fun mr mr_1 => ((decide ((mr + mr_1) <= (List.length (List.set z_1 (Int.toNat (imm true (((List.length x) : Nat) : Int) (((List.length y) : Nat) : Int))) carry_1)))) && (k0 (List.take mr_1 (List.drop mr (List.set z_1 (Int.toNat (imm true (((List.length x) : Nat) : Int) (((List.length y) : Nat) : Int))) carry_1))))))))))) (0, 0, (List.replicate (Int.toNat ((imm true (((List.length x) : Nat) : Int) (((List.length y) : Nat) : Int)) + 1)) (0 : Int))))))

def sQ119 (N : Nat) : TSQ119 := GQ119 N (sQ13 N) (sQ59 N) (sQ1 N)

abbrev TSQ92 : Type := List Int -> List Int -> (Int -> Bool) -> Bool

def stQ157 (N : Nat) (x_1 y_1 : List Int) (e0 : Int -> Bool) (e1 : Bool) : (Int) -> ((Int) -> Bool) -> Bool := fun v_ K => match v_ with
  | i => (cond (decide (i >= 0)) ((inR i (List.length x_1)) && ((inR i (List.length y_1)) && (cond ((List.getD x_1 (Int.toNat i) 0) != (List.getD y_1 (Int.toNat i) 0)) ((inR i (List.length x_1)) && ((inR i (List.length y_1)) && (cond (decide ((List.getD x_1 (Int.toNat i) 0) < (List.getD y_1 (Int.toNat i) 0))) (e0 (-1)) (e0 1)))) ((fits .i64 (i - 1)) && (K (i - 1)))))) e1)

def GQ92 (N : Nat) (x y : List Int) (k0 : Int -> Bool) : Bool :=
  (cond ((((List.length x) : Nat) : Int) != (((List.length y) : Nat) : Int)) (cond (decide ((((List.length x) : Nat) : Int) < (((List.length y) : Nat) : Int))) (k0 (-1)) (k0 1)) ((fits .i64 ((((List.length x) : Nat) : Int) - 1)) && (iterG N (stQ157 N x y (fun t4 => (k0 t4)) (k0 0)) ((((List.length x) : Nat) : Int) - 1))))

def sQ92 (N : Nat) : TSQ92 := GQ92 N

abbrev TSQ78 : Type := Int -> Int -> Int -> (Int -> Int -> Bool) -> Bool

def sQ78 (N : Nat) : TSQ78 := fun x y c k => (decide (c.toNat <= 1)) && k (((x.toNat + 18446744073709551616 - y.toNat - c.toNat) % 18446744073709551616 : Nat) : Int) (cond (decide (x.toNat < y.toNat + c.toNat)) 1 0)

abbrev TSQ123 : Type := List Int -> List Int -> (List Int -> Bool) -> Bool

def st_big_less_0 (N : Nat) (SQ13 : TSQ13) (SQ78 : TSQ78) (SQ1 : TSQ1) (x_1 y_1 : List Int) (t12 : Int) (e0 : List Int -> Bool) : (Int × Int × List Int) -> ((Int × Int × List Int) -> Bool) -> Bool := fun v_ K => match v_ with
  | (borrow, t13, z) => (cond (decide (t13 < t12)) ((inR t13 (List.length x_1)) && (SQ13 y_1 t13 (fun nr => (SQ78 (List.getD x_1 (Int.toNat t13) 0) nr borrow (fun nr_1 nr_2 => ((inR t13 (List.length z)) && ((decide ((Int.toNat t13) < (List.length z))) && ((fits .i64 (t13 + 1)) && (K (nr_2, (t13 + 1), (List.set z (Int.toNat t13) nr_1))))))))))) (e0 z))

def GQ123 (N : Nat) (SQ13 : TSQ13) (SQ78 : TSQ78) (SQ1 : TSQ1) (x y : List Int) (k0 : List Int -> Bool) : Bool :=
  ((mkOk 8 (((List.length x) : Nat) : Int) (((List.length x) : Nat) : Int)) && (iterG N (st_big_less_0 N SQ13 SQ78 SQ1 x y (((List.length x) : Nat) : Int) (fun z_1 => (SQ1 z_1 (fun mr mr_1 => ((decide ((mr + mr_1) <= (List.length z_1))) && (k0 (List.take mr_1 (List.drop mr z_1)))))))) (0, 0, (List.replicate (Int.toNat (((List.length x) : Nat) : Int)) (0 : Int)))))

def sQ123 (N : Nat) : TSQ123 := GQ123 N (sQ13 N) (sQ78 N) (sQ1 N)

abbrev TSQ54 : Type := Bool -> List Int -> Bool -> Bool -> List Int -> (Bool -> List Int -> Bool) -> Bool

def GQ54 (N : Nat) (SQ119 : TSQ119) (SQ0 : TSQ0) (SQ92 : TSQ92) (SQ123 : TSQ123) (neg : Bool) (y : List Int) (b b_1 : Bool) (b_2 : List Int) (k0 : Bool -> List Int -> Bool) : Bool :=
  (cond (b_1 == neg) (SQ119 b_2 y (fun nsr => (SQ0 neg nsr b (fun cr => (k0 cr nsr))))) (SQ92 b_2 y (fun nr => (cond (decide (nr >= 0)) (SQ123 b_2 y (fun nsr_1 => (SQ0 b_1 nsr_1 b (fun cr_1 => (k0 cr_1 nsr_1))))) (SQ123 y b_2 (fun nsr_2 => (SQ0 neg nsr_2 b (fun cr_2 => (k0 cr_2 nsr_2)))))))))

def sQ54 (N : Nat) : TSQ54 := GQ54 N (sQ119 N) (sQ0 N) (sQ92 N) (sQ123 N)

abbrev TSQ22 : Type := Bool -> Bool -> List Int -> Bool -> List Int -> (Bool -> List Int -> Bool) -> Bool

def GQ22 (N : Nat) (SQ54 : TSQ54) (b b_1 : Bool) (b_2 : List Int) (b_3 : Bool) (b_4 : List Int) (k0 : Bool -> List Int -> Bool) : Bool :=
  (SQ54 b_3 b_4 b b_1 b_2 (fun cr nsr => (k0 cr nsr)))

def sQ22 (N : Nat) : TSQ22 := GQ22 N (sQ54 N)

abbrev TSQ14 : Type := Int -> Int -> Bool -> Bool -> List Int -> (List Int -> Bool) -> (List Int -> Bool) -> (Int -> List Int -> Bool -> List Int -> Bool) -> Bool

def GQ14 (N : Nat) (SQ67 : TSQ67) (SQ4 : TSQ4) (SQ28 : TSQ28) (SQ22 : TSQ22) (x y : Int) (b b_1 : Bool) (b_2 : List Int) (k0 : List Int -> Bool) (k1 : List Int -> Bool) (k2 : Int -> List Int -> Bool -> List Int -> Bool) : Bool :=
  (SQ67 b (fun nr nsr => (cond (nr == 0) (k0 nsr) (SQ4 b_1 b_2 (fun nr_1 => (cond (nr_1 == 0) (k1 nsr) (SQ28 x (imm false x y) b nsr (fun cr nsr_1 => (SQ28 y (imm false x y) b_1 b_2 (fun cr_1 nsr_2 => (SQ22 false cr nsr_1 cr_1 nsr_2 (fun cr_2 nsr_3 => (k2 (imm false x y) nsr cr_2 nsr_3)))))))))))))

def sQ14 (N : Nat) : TSQ14 := GQ14 N (sQ67 N) (sQ4 N) (sQ28 N) (sQ22 N)

abbrev TSQ5 : Type := Int -> Int -> Bool -> List Int -> Bool -> List Int -> (Bool) -> (Bool) -> (Int -> Bool -> List Int -> Bool) -> Bool

def GQ5 (N : Nat) (SQ4 : TSQ4) (SQ28 : TSQ28) (SQ22 : TSQ22) (x y : Int) (b : Bool) (b_1 : List Int) (b_2 : Bool) (b_3 : List Int) (k0 k1 : Bool) (k2 : Int -> Bool -> List Int -> Bool) : Bool :=
  (SQ4 b b_1 (fun nr => (cond (nr == 0) k0 (SQ4 b_2 b_3 (fun nr_1 => (cond (nr_1 == 0) k1 (SQ28 x (imm false x y) b b_1 (fun cr nsr => (SQ28 y (imm false x y) b_2 b_3 (fun cr_1 nsr_1 => (SQ22 false cr nsr cr_1 nsr_1 (fun cr_2 nsr_2 => (k2 (imm false x y) cr_2 nsr_2)))))))))))))

def sQ5 (N : Nat) : TSQ5 := GQ5 N (sQ4 N) (sQ28 N) (sQ22 N)

abbrev TSQ29 : Type := Bool -> Bool -> List Int -> (Bool -> List Int -> Bool) -> Bool

def GQ29 (N : Nat) (SQ63 : TSQ63) (SQ0 : TSQ0) (b b_1 : Bool) (b_2 : List Int) (k0 : Bool -> List Int -> Bool) : Bool :=
  (SQ63 b_2 (fun nsr => (SQ0 b_1 nsr b (fun cr => (k0 cr nsr)))))

def sQ29 (N : Nat) : TSQ29 := GQ29 N (sQ63 N) (sQ0 N)

abbrev TSQ48 : Type := Int -> Bool -> List Int -> (Int -> Bool) -> Bool

def GQ48 (N : Nat) (SQ13 : TSQ13) (i : Int) (b : Bool) (b_1 : List Int) (k0 : Int -> Bool) : Bool :=
  ((fits .i64 (Int.tdiv i 64)) && (SQ13 b_1 (Int.tdiv i 64) (fun nr => ((decide (0 <= (Int.tmod i 64))) && (k0 (bitsN .and .u64 (Int.fdiv nr (2 ^ (min (Int.toNat (Int.tmod i 64)) 64))) 1))))))

def sQ48 (N : Nat) : TSQ48 := GQ48 N (sQ13 N)

abbrev TSQ7 : Type := Bool -> List Int -> (Int -> Bool) -> Bool

def stQ148 (N : Nat) (SQ6 : TSQ6) (t8 : List Int) (t9 : Int) (b0 : Bool) (b0_1 : List Int) (e0 : Int -> Bool) (e1 : Bool) : (Int) -> ((Int) -> Bool) -> Bool := fun v_ K => match v_ with
  | t10 => (cond (decide (t10 < t9)) ((inR t10 (List.length t8)) && (cond ((List.getD t8 (Int.toNat t10) 0) != 0) ((fits .i64 (64 * t10)) && (SQ6 (List.getD t8 (Int.toNat t10) 0) (fun nr => ((fits .i64 ((64 * t10) + nr)) && (e0 (IntKind.wrap .u64 ((64 * t10) + nr))))))) ((fits .i64 (t10 + 1)) && (K (t10 + 1))))) e1)

def GQ7 (N : Nat) (SQ6 : TSQ6) (b : Bool) (b_1 : List Int) (k0 : Int -> Bool) : Bool :=
  (iterG N (stQ148 N SQ6 b_1 (((List.length b_1) : Nat) : Int) b b_1 (fun t2 => (k0 t2)) (k0 0)) 0)

def sQ7 (N : Nat) : TSQ7 := GQ7 N (sQ6 N)

abbrev TSQ108 : Type := List Int -> Int -> (List Int -> Bool -> Bool) -> Bool

def st_big_right_0 (N : Nat) (SQ13 : TSQ13) (SQ1 : TSQ1) (x_1 : List Int) (words rest : Int) (t37 : List Int) (t38 : Int) (e0 : Int -> Bool) : (Int × Int) -> ((Int × Int) -> Bool) -> Bool := fun v_ K => match v_ with
  | (lost, t39) => (cond (decide (t39 < t38)) ((inR t39 (List.length t37)) && ((fits .i64 (t39 + 1)) && (K ((bitsN .or .u64 lost (List.getD t37 (Int.toNat t39) 0)), (t39 + 1))))) (e0 lost))

def st_big_right_2 (N : Nat) (SQ13 : TSQ13) (SQ1 : TSQ1) (x_2 : List Int) (words_1 rest_1 lost_2 t53 : Int) (e0 : List Int -> Bool) : (Int × List Int) -> ((Int × List Int) -> Bool) -> Bool := fun v_ K => match v_ with
  | (t54, z) => (cond (decide (t54 < t53)) ((fits .i64 (words_1 + t54)) && (SQ13 x_2 (words_1 + t54) (fun nr => ((decide (0 <= rest_1)) && ((fits .i64 (words_1 + t54)) && ((fits .i64 ((words_1 + t54) + 1)) && (SQ13 x_2 ((words_1 + t54) + 1) (fun nr_1 => ((decide (0 <= (IntKind.wrap .u64 (64 - rest_1)))) && ((inR t54 (List.length z)) && ((decide ((Int.toNat t54) < (List.length z))) && ((fits .i64 (t54 + 1)) && (K ((t54 + 1), (List.set z (Int.toNat t54) (bitsN .or .u64 (Int.fdiv nr (2 ^ (min (Int.toNat rest_1) 64))) (IntKind.wrap .u64 (nr_1 * 2 ^ (min (Int.toNat (IntKind.wrap .u64 (64 - rest_1))) 64))))))))))))))))))) (e0 z))

def GQ108 (N : Nat) (SQ13 : TSQ13) (SQ1 : TSQ1) (x : List Int) (n : Int) (k0 : List Int -> Bool -> Bool) : Bool :=
  (cond (decide ((IntKind.wrap .u64 (Int.tdiv n 64)) >= (IntKind.wrap .u64 (((List.length x) : Nat) : Int)))) (k0 [] (decide ((((List.length x) : Nat) : Int) > 0))) ((fits .i64 (IntKind.wrap .u64 (Int.tdiv n 64))) && ((inR (IntKind.wrap .u64 (Int.tdiv n 64)) (List.length x)) && ((decide (0 <= (Int.tmod n 64))) && ((decide (0 <= (IntKind.wrap .u64 (Int.tdiv n 64)) /\ (IntKind.wrap .u64 (Int.tdiv n 64)) <= (((List.length x) : Nat) : Int))) && (iterG N (st_big_right_0 N SQ13 SQ1 x (IntKind.wrap .u64 (Int.tdiv n 64)) (Int.tmod n 64) (List.drop 0 (List.take (Int.toNat (IntKind.wrap .u64 (Int.tdiv n 64))) x)) (((List.length (List.drop 0 (List.take (Int.toNat (IntKind.wrap .u64 (Int.tdiv n 64))) x))) : Nat) : Int) (fun lost_1 => ((fits .i64 ((((List.length x) : Nat) : Int) - (IntKind.wrap .u64 (Int.tdiv n 64)))) && ((mkOk 8 ((((List.length x) : Nat) : Int) - (IntKind.wrap .u64 (Int.tdiv n 64))) ((((List.length x) : Nat) : Int) - (IntKind.wrap .u64 (Int.tdiv n 64)))) && (iterG N (st_big_right_2 N SQ13 SQ1 x (IntKind.wrap .u64 (Int.tdiv n 64)) (Int.tmod n 64) lost_1 (((List.length (List.replicate (Int.toNat ((((List.length x) : Nat) : Int) - (IntKind.wrap .u64 (Int.tdiv n 64)))) (0 : Int))) : Nat) : Int) (fun z_1 => (SQ1 z_1 (fun mr mr_1 => ((decide ((mr + mr_1) <= (List.length z_1))) && (k0 (List.take mr_1 (List.drop mr z_1)) (lost_1 != 0))))))) (0, (List.replicate (Int.toNat ((((List.length x) : Nat) : Int) - (IntKind.wrap .u64 (Int.tdiv n 64)))) (0 : Int)))))))) ((bitsN .and .u64 (List.getD x (Int.toNat (IntKind.wrap .u64 (Int.tdiv n 64))) 0) (IntKind.wrap .u64 ((IntKind.wrap .u64 ((1 : Int) * 2 ^ (min (Int.toNat (Int.tmod n 64)) 64))) - 1))), 0)))))))

def sQ108 (N : Nat) : TSQ108 := GQ108 N (sQ13 N) (sQ1 N)

abbrev TSQ11 : Type := Int -> Bool -> List Int -> (Bool -> List Int -> Bool) -> Bool

def GQ11 (N : Nat) (SQ108 : TSQ108) (SQ119 : TSQ119) (SQ27 : TSQ27) (n : Int) (b : Bool) (b_1 : List Int) (k0 : Bool -> List Int -> Bool) : Bool :=
  (SQ108 b_1 n (fun nsr cr => (cond (b == true) (cond cr (SQ119 nsr [1] (fun nsr_1 => (SQ27 b nsr_1 b b_1 (fun cr_1 => (k0 cr_1 nsr_1))))) (SQ27 b nsr b b_1 (fun cr_2 => (k0 cr_2 nsr)))) (SQ27 b nsr b b_1 (fun cr_3 => (k0 cr_3 nsr))))))

def sQ11 (N : Nat) : TSQ11 := GQ11 N (sQ108 N) (sQ119 N) (sQ27 N)

abbrev TSQ15 : Type := Int -> Bool -> List Int -> (Int -> Bool -> List Int -> Bool) -> Bool

def stQ146 (N : Nat) (SQ29 : TSQ29) (SQ4 : TSQ4) (SQ48 : TSQ48) (SQ7 : TSQ7) (SQ11 : TSQ11) (b0 : Bool) (b0_1 : List Int) (t2 : Value) (t2_1 : Int) (e0 : Int -> Bool -> List Int -> Bool) : (Int × Bool × List Int) -> ((Int × Bool × List Int) -> Bool) -> Bool := fun v_ K => match v_ with
  | (e, n, n_1) => (SQ4 n n_1 (fun nr => (cond ((nr != 0) == true) (SQ48 0 n n_1 (fun nr_1 => (cond (nr_1 == 0) (SQ7 n n_1 (fun nr_2 => (SQ11 nr_2 n n_1 (fun cr_1 nsr_1 => ((fits .i64 nr_2) && ((fits .i64 (e + nr_2)) && (K ((e + nr_2), cr_1, nsr_1)))))))) (e0 e n n_1)))) (e0 e n n_1))))

def GQ15 (N : Nat) (SQ29 : TSQ29) (SQ4 : TSQ4) (SQ48 : TSQ48) (SQ7 : TSQ7) (SQ11 : TSQ11) (x : Int) (b : Bool) (b_1 : List Int) (k0 : Int -> Bool -> List Int -> Bool) : Bool :=
  (SQ29 false b b_1 (fun cr nsr => (iterG N (stQ146 N SQ29 SQ4 SQ48 SQ7 SQ11 b b_1 (.pointer none) 0 (fun e_1 n_2 n_3 => (k0 e_1 n_2 n_3))) (x, cr, nsr))))

def sQ15 (N : Nat) : TSQ15 := GQ15 N (sQ29 N) (sQ4 N) (sQ48 N) (sQ7 N) (sQ11 N)

abbrev TSQ77 : Type := Int -> (Int -> Bool) -> Bool

def JQ149 (N : Nat) (x x_2 n_1 : Int) (k0 : Int -> Bool) : Bool :=
  (cond (decide (x_2 >= 256)) ((fits .i64 (n_1 + 8)) && ((inR (IntKind.wrap .u8 (Int.fdiv x_2 (2 ^ 8))) 256) && ((fits .i64 (List.getD strTab_11c1601c (Int.toNat (IntKind.wrap .u8 (Int.fdiv x_2 (2 ^ 8)))) 0)) && ((fits .i64 ((n_1 + 8) + (List.getD strTab_11c1601c (Int.toNat (IntKind.wrap .u8 (Int.fdiv x_2 (2 ^ 8)))) 0))) && (k0 ((n_1 + 8) + (List.getD strTab_11c1601c (Int.toNat (IntKind.wrap .u8 (Int.fdiv x_2 (2 ^ 8)))) 0))))))) ((inR (IntKind.wrap .u8 x_2) 256) && ((fits .i64 (List.getD strTab_11c1601c (Int.toNat (IntKind.wrap .u8 x_2)) 0)) && ((fits .i64 (n_1 + (List.getD strTab_11c1601c (Int.toNat (IntKind.wrap .u8 x_2)) 0))) && (k0 (n_1 + (List.getD strTab_11c1601c (Int.toNat (IntKind.wrap .u8 x_2)) 0)))))))

def JQ147 (N : Nat) (x x_1 n : Int) (k0 : Int -> Bool) : Bool :=
  (cond (decide (x_1 >= 65536)) ((fits .i64 (n + 16)) && (JQ149 N x (Int.fdiv x_1 (2 ^ 16)) (n + 16) k0)) (JQ149 N x x_1 n k0))

def GQ77 (N : Nat) (x : Int) (k0 : Int -> Bool) : Bool :=
  (cond (decide (x >= 4294967296)) (JQ147 N x (Int.fdiv x (2 ^ 32)) 32 k0) (JQ147 N x x 0 k0))

def sQ77 (N : Nat) : TSQ77 := GQ77 N

abbrev TSQ109 : Type := List Int -> (Int -> Bool) -> Bool

def GQ109 (N : Nat) (SQ77 : TSQ77) (x : List Int) (k0 : Int -> Bool) : Bool :=
  (cond ((((List.length x) : Nat) : Int) == 0) (k0 0) ((fits .i64 ((((List.length x) : Nat) : Int) - 1)) && ((fits .i64 (64 * ((((List.length x) : Nat) : Int) - 1))) && ((fits .i64 ((((List.length x) : Nat) : Int) - 1)) && ((inR ((((List.length x) : Nat) : Int) - 1) (List.length x)) && (SQ77 (List.getD x (Int.toNat ((((List.length x) : Nat) : Int) - 1)) 0) (fun nr => ((fits .i64 ((64 * ((((List.length x) : Nat) : Int) - 1)) + nr)) && (k0 ((64 * ((((List.length x) : Nat) : Int) - 1)) + nr))))))))))

def sQ109 (N : Nat) : TSQ109 := GQ109 N (sQ77 N)

abbrev TSQ31 : Type := Bool -> List Int -> (Int -> Bool) -> Bool

def GQ31 (N : Nat) (SQ109 : TSQ109) (b : Bool) (b_1 : List Int) (k0 : Int -> Bool) : Bool :=
  (SQ109 b_1 (fun nr => (k0 nr)))

def sQ31 (N : Nat) : TSQ31 := GQ31 N (sQ109 N)

abbrev TSQ51 : Type := Int -> Bool -> (Bool -> List Int -> Bool) -> Bool

def GQ51 (N : Nat) (SQ104 : TSQ104) (SQ0 : TSQ0) (n : Int) (b : Bool) (k0 : Bool -> List Int -> Bool) : Bool :=
  (cond (decide (n < 0)) (SQ104 (IntKind.wrap .u64 (0 - (IntKind.wrap .u64 n))) (fun nsr => (SQ0 true nsr b (fun cr => (k0 cr nsr))))) (SQ104 (IntKind.wrap .u64 n) (fun nsr_1 => (SQ0 false nsr_1 b (fun cr_1 => (k0 cr_1 nsr_1))))))

def sQ51 (N : Nat) : TSQ51 := GQ51 N (sQ104 N) (sQ0 N)

abbrev TSQ53 : Type := Int -> (Bool -> List Int -> Bool) -> Bool

def GQ53 (N : Nat) (SQ51 : TSQ51) (n : Int) (k0 : Bool -> List Int -> Bool) : Bool :=
  (SQ51 n false (fun cr nsr => (k0 cr nsr)))

def sQ53 (N : Nat) : TSQ53 := GQ53 N (sQ51 N)

abbrev TSQ30 : Type := Bool -> Bool -> List Int -> (Bool -> List Int -> Bool) -> Bool

def GQ30 (N : Nat) (SQ63 : TSQ63) (SQ0 : TSQ0) (b b_1 : Bool) (b_2 : List Int) (k0 : Bool -> List Int -> Bool) : Bool :=
  (SQ63 b_2 (fun nsr => (SQ0 false nsr b (fun cr => (k0 cr nsr)))))

def sQ30 (N : Nat) : TSQ30 := GQ30 N (sQ63 N) (sQ0 N)

abbrev TSQ35 : Type := Bool -> Nat -> Nat -> Bool -> List Int -> (Bool -> Bool) -> Bool

def GQ35 (N : Nat) (neg : Bool) (abs_0 abs_1 : Nat) (b : Bool) (b_1 : List Int) (k0 : Bool -> Bool) : Bool :=
  (cond (neg == true) (k0 (decide (((abs_1 : Nat) : Int) > 0))) (k0 false))

def sQ35 (N : Nat) : TSQ35 := GQ35 N

abbrev TSQ18 : Type := Bool -> Bool -> List Int -> Bool -> List Int -> (Bool -> List Int -> Bool) -> Bool

def stQ151 (N : Nat) (SQ1 : TSQ1) (SQ35 : TSQ35) (t22 : Int) (z x : Bool) (x_1 : List Int) (y : Bool) (y_1 : List Int) (e0 : List Int -> Bool) : (Int × List Int) -> ((Int × List Int) -> Bool) -> Bool := fun v_ K => match v_ with
  | (t23, r) => (cond (decide (t23 < t22)) ((inR t23 (List.length x_1)) && ((inR t23 (List.length y_1)) && ((inR t23 (List.length r)) && ((decide ((Int.toNat t23) < (List.length r))) && ((fits .i64 (t23 + 1)) && (K ((t23 + 1), (List.set r (Int.toNat t23) (bitsN .and .u64 (List.getD x_1 (Int.toNat t23) 0) (List.getD y_1 (Int.toNat t23) 0)))))))))) (e0 r))

def GQ18 (N : Nat) (SQ1 : TSQ1) (SQ35 : TSQ35) (b b_1 : Bool) (b_2 : List Int) (b_3 : Bool) (b_4 : List Int) (k0 : Bool -> List Int -> Bool) : Bool :=
  ((mkOk 8 (imm false (((List.length b_2) : Nat) : Int) (((List.length b_4) : Nat) : Int)) (imm false (((List.length b_2) : Nat) : Int) (((List.length b_4) : Nat) : Int))) && (iterG N (stQ151 N SQ1 SQ35 (((List.length (List.replicate (Int.toNat (imm false (((List.length b_2) : Nat) : Int) (((List.length b_4) : Nat) : Int))) (0 : Int))) : Nat) : Int) b b_1 b_2 b_3 b_4 (fun r_1 => (SQ1 r_1 (fun mr mr_1 => (SQ35 false mr mr_1 b r_1 (fun cr => ((decide ((mr + mr_1) <= (List.length r_1))) && (k0 cr (List.take mr_1 (List.drop mr r_1)))))))))) (0, (List.replicate (Int.toNat (imm false (((List.length b_2) : Nat) : Int) (((List.length b_4) : Nat) : Int))) (0 : Int)))))

def sQ18 (N : Nat) : TSQ18 := GQ18 N (sQ1 N) (sQ35 N)

abbrev TSQ139 : Type := List Int -> (Int -> Bool) -> Bool

def GQ139 (N : Nat) (SQ13 : TSQ13) (x : List Int) (k0 : Int -> Bool) : Bool :=
  (SQ13 x 0 (fun nr => (k0 nr)))

def sQ139 (N : Nat) : TSQ139 := GQ139 N (sQ13 N)

abbrev TSQ32 : Type := Bool -> List Int -> (Int -> Bool) -> Bool

def GQ32 (N : Nat) (SQ139 : TSQ139) (b : Bool) (b_1 : List Int) (k0 : Int -> Bool) : Bool :=
  (SQ139 b_1 (fun nr => (k0 nr)))

def sQ32 (N : Nat) : TSQ32 := GQ32 N (sQ139 N)

abbrev TSQ8 : Type := Int -> Bool -> List Int -> (Bool -> Int -> Int -> Bool) -> (Bool -> Int -> Int -> List Int -> Bool) -> Bool

def stQ152 (N : Nat) (SQ15 : TSQ15) (SQ4 : TSQ4) (SQ31 : TSQ31) (SQ53 : TSQ53) (SQ30 : TSQ30) (SQ18 : TSQ18) (SQ32 : TSQ32) (SQ11 : TSQ11) (b0_2 : Bool) (b0_3 : List Int) (t2_2 : Bool) (t2_3 : Int) (d_2 : Bool) (d_3 : Int) (mask_2 : Bool) (mask_3 : List Int) (e0 : List Int -> Bool) : (Bool × List Int × List Int) -> ((Bool × List Int × List Int) -> Bool) -> Bool := fun v_ K => match v_ with
  | (m_2, m_3, b5) => (SQ4 m_2 m_3 (fun nr_6 => (cond (nr_6 != 0) (SQ18 false m_2 m_3 mask_2 mask_3 (fun cr_5 nsr_5 => (SQ32 cr_5 nsr_5 (fun nr_7 => ((decide ((List.length (b5 ++ [(IntKind.wrap .u32 nr_7)])) * 4 <= 140737488355328)) && (SQ11 32 m_2 m_3 (fun cr_6 nsr_6 => (K (cr_6, nsr_6, (b5 ++ [(IntKind.wrap .u32 nr_7)])))))))))) (e0 b5))))

def GQ8 (N : Nat) (SQ15 : TSQ15) (SQ4 : TSQ4) (SQ31 : TSQ31) (SQ53 : TSQ53) (SQ30 : TSQ30) (SQ18 : TSQ18) (SQ32 : TSQ32) (SQ11 : TSQ11) (x : Int) (b : Bool) (b_1 : List Int) (k0 : Bool -> Int -> Int -> Bool) (k1 : Bool -> Int -> Int -> List Int -> Bool) : Bool :=
  (SQ15 x b b_1 (fun nr cr nsr => (SQ4 cr nsr (fun nr_1 => (cond (nr_1 == 0) (k0 false 0 0) (SQ31 cr nsr (fun nr_2 => (cond ((decide (nr_2 > 65536)) == false) (cond ((decide (nr > 100000)) == false) (cond (decide (nr < (-100000))) (k0 false 0 2) (SQ4 cr nsr (fun nr_3 => (SQ53 4294967295 (fun cr_1 nsr_1 => (SQ30 false cr nsr (fun cr_2 nsr_2 => (iterG N (stQ152 N SQ15 SQ4 SQ31 SQ53 SQ30 SQ18 SQ32 SQ11 b b_1 false 0 (decide (nr_3 < 0)) nr cr_1 nsr_1 (fun b3 => (k1 (decide (nr_3 < 0)) nr 0 b3))) (cr_2, nsr_2, []))))))))) (k0 false 0 2)) (k0 false 0 2)))))))))

def sQ8 (N : Nat) : TSQ8 := GQ8 N (sQ15 N) (sQ4 N) (sQ31 N) (sQ53 N) (sQ30 N) (sQ18 N) (sQ32 N) (sQ11 N)

abbrev TSQ69 : Type := List Fl -> List Fl -> (Bool -> Int -> Int -> Bool) -> (Bool -> Int -> Int -> List Int -> Bool) -> Bool

def st_dyad_Dot_0 (N : Nat) (SQ85 : TSQ85) (SQ120 : TSQ120) (SQ12 : TSQ12) (SQ14 : TSQ14) (SQ5 : TSQ5) (SQ8 : TSQ8) (b_2 t26_1 : List Fl) (t27_1 : Int) (t4_2 : Bool) (t4_3 : Int) (e0 : Int -> Bool -> List Int -> Bool) : (Int × Int × Bool × List Int) -> ((Int × Int × Bool × List Int) -> Bool) -> Bool := fun v_ K => match v_ with
  | (t28_1, s_1, b2_1, b2_2) => (cond (decide (t28_1 < t27_1)) ((inR t28_1 (List.length t26_1)) && (SQ120 (List.getD t26_1 (Int.toNat t28_1) none) (fun nr_3 cr_5 nsr_4 => ((inR t28_1 (List.length b_2)) && (SQ120 (List.getD b_2 (Int.toNat t28_1) none) (fun nr_4 cr_6 nsr_5 => (SQ12 nr_3 nr_4 cr_5 nsr_4 cr_6 nsr_5 (fun nr_5 cr_7 nsr_6 => (SQ5 s_1 nr_5 b2_1 b2_2 cr_7 nsr_6 ((fits .i64 (t28_1 + 1)) && (K ((t28_1 + 1), nr_5, cr_7, nsr_6))) ((fits .i64 (t28_1 + 1)) && (K ((t28_1 + 1), s_1, b2_1, b2_2))) (fun nr_6 cr_8 nsr_7 => ((fits .i64 (t28_1 + 1)) && (K ((t28_1 + 1), nr_6, cr_8, nsr_7))))))))))))) (e0 s_1 b2_1 b2_2))

def GQ69 (N : Nat) (SQ85 : TSQ85) (SQ120 : TSQ120) (SQ12 : TSQ12) (SQ14 : TSQ14) (SQ5 : TSQ5) (SQ8 : TSQ8) (a b : List Fl) (k0 : Bool -> Int -> Int -> Bool) (k1 : Bool -> Int -> Int -> List Int -> Bool) : Bool :=
  (cond ((((List.length a) : Nat) : Int) != (((List.length b) : Nat) : Int)) (k0 false 0 3) (SQ85 a (fun cr => (cond ((!cr) == false) (SQ85 b (fun cr_1 => (cond (!cr_1) (k0 false 0 4) (iterG N (st_dyad_Dot_0 N SQ85 SQ120 SQ12 SQ14 SQ5 SQ8 b a (((List.length a) : Nat) : Int) false 0 (fun s_2 b2_3 b2_4 => (SQ8 s_2 b2_3 b2_4 (fun cr_9 nr_7 nr_8 => (k0 cr_9 nr_7 nr_8)) (fun cr_10 nr_9 nr_10 nsr_8 => (k1 cr_10 nr_9 nr_10 nsr_8))))) (0, 0, false, []))))) (k0 false 0 4)))))

def sQ69 (N : Nat) : TSQ69 := GQ69 N (sQ85 N) (sQ120 N) (sQ12 N) (sQ14 N) (sQ5 N) (sQ8 N)

abbrev TSQ103 : Type := Bool -> List Int -> Int -> (Bool -> Bool) -> Bool

def GQ103 (N : Nat) (d_0 : Bool) (d_1 : List Int) (d_2 : Int) (k0 : Bool -> Bool) : Bool :=
  (cond ((((List.length d_1) : Nat) : Int) == 0) (cond ((!d_0) == true) (k0 (d_2 == 0)) (k0 false)) (cond ((decide ((((List.length d_1) : Nat) : Int) <= 2048)) == true) ((fits .i64 ((((List.length d_1) : Nat) : Int) - 1)) && ((inR ((((List.length d_1) : Nat) : Int) - 1) (List.length d_1)) && (cond (((List.getD d_1 (Int.toNat ((((List.length d_1) : Nat) : Int) - 1)) 0) != 0) == true) ((inR 0 (List.length d_1)) && (cond (((Int.tmod (List.getD d_1 0 0) 2) == 1) == true) (cond ((decide (d_2 >= (-100000))) == true) (k0 (decide (d_2 <= 100000))) (k0 false)) (k0 false))) (k0 false)))) (k0 false)))

def sQ103 (N : Nat) : TSQ103 := GQ103 N

abbrev TSQ37 : Type := Int -> Bool -> (Bool -> List Int -> Bool) -> Bool

def GQ37 (N : Nat) (SQ84 : TSQ84) (SQ0 : TSQ0) (n : Int) (b : Bool) (k0 : Bool -> List Int -> Bool) : Bool :=
  (SQ84 [] n (fun nsr => (SQ0 b nsr b (fun cr => (k0 cr nsr)))))

def sQ37 (N : Nat) : TSQ37 := GQ37 N (sQ84 N) (sQ0 N)

abbrev TSQ36 : Type := Bool -> Nat -> Nat -> Bool -> List Int -> List Int -> (Bool -> Bool) -> Bool

def GQ36 (N : Nat) (neg : Bool) (abs_0 abs_1 : Nat) (b : Bool) (b_1 b_2 : List Int) (k0 : Bool -> Bool) : Bool :=
  (cond (neg == true) (k0 (decide (((abs_1 : Nat) : Int) > 0))) (k0 false))

def sQ36 (N : Nat) : TSQ36 := GQ36 N

abbrev TSQ25 : Type := Bool -> List Int -> Bool -> List Int -> (Bool -> List Int -> Bool) -> Bool

def stQ153 (N : Nat) (SQ13 : TSQ13) (SQ1 : TSQ1) (SQ36 : TSQ36) (t22 : Int) (z : Bool) (z_1 : List Int) (y : Bool) (y_1 : List Int) (e0 : List Int -> Bool) : (Int × List Int) -> ((Int × List Int) -> Bool) -> Bool := fun v_ K => match v_ with
  | (t23, r) => (cond (decide (t23 < t22)) (SQ13 z_1 t23 (fun nr => (SQ13 y_1 t23 (fun nr_1 => ((inR t23 (List.length r)) && ((decide ((Int.toNat t23) < (List.length r))) && ((fits .i64 (t23 + 1)) && (K ((t23 + 1), (List.set r (Int.toNat t23) (bitsN .or .u64 nr nr_1))))))))))) (e0 r))

def GQ25 (N : Nat) (SQ13 : TSQ13) (SQ1 : TSQ1) (SQ36 : TSQ36) (b : Bool) (b_1 : List Int) (b_2 : Bool) (b_3 : List Int) (k0 : Bool -> List Int -> Bool) : Bool :=
  ((mkOk 8 (imm true (((List.length b_1) : Nat) : Int) (((List.length b_3) : Nat) : Int)) (imm true (((List.length b_1) : Nat) : Int) (((List.length b_3) : Nat) : Int))) && (iterG N (stQ153 N SQ13 SQ1 SQ36 (((List.length (List.replicate (Int.toNat (imm true (((List.length b_1) : Nat) : Int) (((List.length b_3) : Nat) : Int))) (0 : Int))) : Nat) : Int) b b_1 b_2 b_3 (fun r_1 => (SQ1 r_1 (fun mr mr_1 => (SQ36 false mr mr_1 b b_1 r_1 (fun cr => ((decide ((mr + mr_1) <= (List.length r_1))) && (k0 cr (List.take mr_1 (List.drop mr r_1)))))))))) (0, (List.replicate (Int.toNat (imm true (((List.length b_1) : Nat) : Int) (((List.length b_3) : Nat) : Int))) (0 : Int)))))

def sQ25 (N : Nat) : TSQ25 := GQ25 N (sQ13 N) (sQ1 N) (sQ36 N)

abbrev TSQ38 : Type := Int -> Bool -> List Int -> (Bool -> List Int -> Bool) -> Bool

def GQ38 (N : Nat) (SQ84 : TSQ84) (SQ27 : TSQ27) (n : Int) (b : Bool) (b_1 : List Int) (k0 : Bool -> List Int -> Bool) : Bool :=
  (SQ84 b_1 n (fun nsr => (SQ27 b nsr b b_1 (fun cr => (k0 cr nsr)))))

def sQ38 (N : Nat) : TSQ38 := GQ38 N (sQ84 N) (sQ27 N)

abbrev TSQ88 : Type := Bool -> List Int -> Int -> (Bool -> List Int -> Bool) -> Bool

def st_dyad_take_0 (N : Nat) (SQ37 : TSQ37) (SQ53 : TSQ53) (SQ25 : TSQ25) (SQ38 : TSQ38) (SQ20 : TSQ20) (d_3 : Bool) (d_4 : List Int) (d_5 : Int) (t2_2 : Value) (t2_3 : Int) (e0 : Bool -> List Int -> Bool) : (Int × Bool × List Int) -> ((Int × Bool × List Int) -> Bool) -> Bool := fun v_ K => match v_ with
  | (i_1, n_1, n_2) => (cond (decide (i_1 >= 0)) (SQ38 32 n_1 n_2 (fun cr_3 nsr_3 => ((inR i_1 (List.length d_4)) && ((fits .i64 (List.getD d_4 (Int.toNat i_1) 0)) && (SQ53 (List.getD d_4 (Int.toNat i_1) 0) (fun cr_4 nsr_4 => (SQ25 cr_3 nsr_3 cr_4 nsr_4 (fun cr_5 nsr_5 => ((fits .i64 (i_1 - 1)) && (K ((i_1 - 1), cr_5, nsr_5))))))))))) (e0 n_1 n_2))

def GQ88 (N : Nat) (SQ37 : TSQ37) (SQ53 : TSQ53) (SQ25 : TSQ25) (SQ38 : TSQ38) (SQ20 : TSQ20) (d_0 : Bool) (d_1 : List Int) (d_2 : Int) (k0 : Bool -> List Int -> Bool) : Bool :=
  ((fits .i64 ((((List.length d_1) : Nat) : Int) - 1)) && (iterG N (st_dyad_take_0 N SQ37 SQ53 SQ25 SQ38 SQ20 d_0 d_1 d_2 (.pointer none) 0 (fun n_3 n_4 => (cond d_0 (SQ20 n_3 n_4 (fun cr_6 nsr_6 => (k0 cr_6 nsr_6))) (k0 n_3 n_4)))) (((((List.length d_1) : Nat) : Int) - 1), false, [])))

def sQ88 (N : Nat) : TSQ88 := GQ88 N (sQ37 N) (sQ53 N) (sQ25 N) (sQ38 N) (sQ20 N)

abbrev TSQ34 : Type := Bool -> Bool -> List Int -> (Bool -> List Int -> Bool) -> Bool

def GQ34 (N : Nat) (SQ63 : TSQ63) (SQ0 : TSQ0) (b b_1 : Bool) (b_2 : List Int) (k0 : Bool -> List Int -> Bool) : Bool :=
  (SQ63 b_2 (fun nsr => (SQ0 (!b_1) nsr b (fun cr => (k0 cr nsr)))))

def sQ34 (N : Nat) : TSQ34 := GQ34 N (sQ63 N) (sQ0 N)

abbrev TSQ60 : Type := Int -> Int -> Bool -> List Int -> Bool -> List Int -> (Int -> Bool -> List Int -> Bool) -> (Bool) -> Bool

def GQ60 (N : Nat) (SQ34 : TSQ34) (SQ5 : TSQ5) (x y : Int) (b : Bool) (b_1 : List Int) (b_2 : Bool) (b_3 : List Int) (k0 : Int -> Bool -> List Int -> Bool) (k1 : Bool) : Bool :=
  (SQ34 false b_2 b_3 (fun cr nsr => (SQ5 x y b b_1 cr nsr (k0 y cr nsr) k1 (fun nr cr_1 nsr_1 => (k0 nr cr_1 nsr_1)))))

def sQ60 (N : Nat) : TSQ60 := GQ60 N (sQ34 N) (sQ5 N)

abbrev TSQ97 : Type := Bool -> List Int -> Int -> Bool -> List Int -> Int -> (Bool -> Int -> Int -> Bool) -> (Bool -> Int -> Int -> List Int -> Bool) -> Bool

def GQ97 (N : Nat) (SQ103 : TSQ103) (SQ88 : TSQ88) (SQ60 : TSQ60) (SQ8 : TSQ8) (a_0 : Bool) (a_1 : List Int) (a_2 : Int) (b_0 : Bool) (b_1 : List Int) (b_2 : Int) (k0 : Bool -> Int -> Int -> Bool) (k1 : Bool -> Int -> Int -> List Int -> Bool) : Bool :=
  (SQ103 a_0 a_1 a_2 (fun cr => (cond ((!cr) == false) (SQ103 b_0 b_1 b_2 (fun cr_1 => (cond (!cr_1) (k0 false 0 30) (SQ88 a_0 a_1 a_2 (fun cr_2 nsr => (SQ88 b_0 b_1 b_2 (fun cr_3 nsr_1 => (SQ60 a_2 b_2 cr_2 nsr cr_3 nsr_1 (fun nr cr_4 nsr_2 => (SQ8 nr cr_4 nsr_2 (fun cr_5 nr_1 nr_2 => (k0 cr_5 nr_1 nr_2)) (fun cr_6 nr_3 nr_4 nsr_3 => (k1 cr_6 nr_3 nr_4 nsr_3)))) (SQ8 a_2 cr_2 nsr (fun cr_7 nr_5 nr_6 => (k0 cr_7 nr_5 nr_6)) (fun cr_8 nr_7 nr_8 nsr_4 => (k1 cr_8 nr_7 nr_8 nsr_4))))))))))) (k0 false 0 30))))

def sQ97 (N : Nat) : TSQ97 := GQ97 N (sQ103 N) (sQ88 N) (sQ60 N) (sQ8 N)

abbrev TSQ70 : Type := Bool -> List Int -> Int -> Bool -> List Int -> Int -> (Bool -> Int -> Int -> Bool) -> (Bool -> Int -> Int -> List Int -> Bool) -> Bool

def GQ70 (N : Nat) (SQ97 : TSQ97) (a_0 : Bool) (a_1 : List Int) (a_2 : Int) (b_0 : Bool) (b_1 : List Int) (b_2 : Int) (k0 : Bool -> Int -> Int -> Bool) (k1 : Bool -> Int -> Int -> List Int -> Bool) : Bool :=
  (SQ97 a_0 a_1 a_2 b_0 b_1 b_2 (fun cr nr nr_1 => (k0 cr nr nr_1)) (fun cr_1 nr_2 nr_3 nsr => (k1 cr_1 nr_2 nr_3 nsr)))

def sQ70 (N : Nat) : TSQ70 := GQ70 N (sQ97 N)

abbrev TSQ33 : Type := Bool -> List Int -> Int -> Bool -> List Int -> Int -> (Int -> Int -> Bool) -> Bool

def GQ33 (N : Nat) (SQ103 : TSQ103) (SQ88 : TSQ88) (SQ34 : TSQ34) (SQ5 : TSQ5) (SQ4 : TSQ4) (a_0 : Bool) (a_1 : List Int) (a_2 : Int) (b_0 : Bool) (b_1 : List Int) (b_2 : Int) (k0 : Int -> Int -> Bool) : Bool :=
  (SQ103 a_0 a_1 a_2 (fun cr => (cond ((!cr) == false) (SQ103 b_0 b_1 b_2 (fun cr_1 => (cond (!cr_1) (k0 0 30) (SQ88 a_0 a_1 a_2 (fun cr_2 nsr => (SQ88 b_0 b_1 b_2 (fun cr_3 nsr_1 => (SQ34 false cr_3 nsr_1 (fun cr_4 nsr_2 => (SQ5 a_2 b_2 cr_2 nsr cr_4 nsr_2 (SQ4 cr_4 nsr_2 (fun nr => (k0 nr 0))) (SQ4 cr_2 nsr (fun nr_1 => (k0 nr_1 0))) (fun nr_2 cr_5 nsr_3 => (SQ4 cr_5 nsr_3 (fun nr_3 => (k0 nr_3 0)))))))))))))) (k0 0 30))))

def sQ33 (N : Nat) : TSQ33 := GQ33 N (sQ103 N) (sQ88 N) (sQ34 N) (sQ5 N) (sQ4 N)

abbrev TSQ72 : Type := Fl -> Fl -> Fl -> Fl -> (Bool -> Bool) -> Bool

def JQ164 (N : Nat) (SQ10 : TSQ10) (SQ52 : TSQ52) (SQ69 : TSQ69) (SQ70 : TSQ70) (SQ33 : TSQ33) (q_0 q_1 q_2 q_3 : Fl) (b7 : List Int) (off_6 : Bool) (off_7 : Int) (k0 : Bool -> Bool) : Bool :=
  (SQ33 false b7 off_7 false [1] (-48) (fun nr_18 nr_19 => (cond ((nr_19 == 0) == true) (k0 (decide (nr_18 <= 0))) (k0 false))))

def JQ163 (N : Nat) (SQ10 : TSQ10) (SQ52 : TSQ52) (SQ69 : TSQ69) (SQ70 : TSQ70) (SQ33 : TSQ33) (q_0 q_1 q_2 q_3 : Fl) (off_4 : Bool) (off_5 : Int) (k0 : Bool -> Bool) : Bool :=
  (SQ33 false [] off_5 false [1] (-48) (fun nr_16 nr_17 => (cond ((nr_17 == 0) == true) (k0 (decide (nr_16 <= 0))) (k0 false))))

def JQ155 (N : Nat) (SQ10 : TSQ10) (SQ52 : TSQ52) (SQ69 : TSQ69) (SQ70 : TSQ70) (SQ33 : TSQ33) (q_0 q_1 q_2 q_3 : Fl) (b3 : List Int) (n_2 : Bool) (n_3 : Int) (k0 : Bool -> Bool) : Bool :=
  (SQ70 n_2 b3 n_3 false [1] 0 (fun cr_5 nr_12 nr_13 => (cond (nr_13 != 0) (k0 false) (JQ163 N SQ10 SQ52 SQ69 SQ70 SQ33 q_0 q_1 q_2 q_3 cr_5 nr_12 k0))) (fun cr_6 nr_14 nr_15 nsr_2 => (cond (nr_15 != 0) (k0 false) (JQ164 N SQ10 SQ52 SQ69 SQ70 SQ33 q_0 q_1 q_2 q_3 nsr_2 cr_6 nr_14 k0))))

def JQ162 (N : Nat) (SQ10 : TSQ10) (SQ52 : TSQ52) (SQ69 : TSQ69) (SQ70 : TSQ70) (SQ33 : TSQ33) (q_0 q_1 q_2 q_3 : Fl) (b6 : List Int) (off_2 : Bool) (off_3 : Int) (k0 : Bool -> Bool) : Bool :=
  (SQ33 false b6 off_3 false [1] (-48) (fun nr_10 nr_11 => (cond ((nr_11 == 0) == true) (k0 (decide (nr_10 <= 0))) (k0 false))))

def JQ161 (N : Nat) (SQ10 : TSQ10) (SQ52 : TSQ52) (SQ69 : TSQ69) (SQ70 : TSQ70) (SQ33 : TSQ33) (q_0 q_1 q_2 q_3 : Fl) (off : Bool) (off_1 : Int) (k0 : Bool -> Bool) : Bool :=
  (SQ33 false [] off_1 false [1] (-48) (fun nr_8 nr_9 => (cond ((nr_9 == 0) == true) (k0 (decide (nr_8 <= 0))) (k0 false))))

def JQ154 (N : Nat) (SQ10 : TSQ10) (SQ52 : TSQ52) (SQ69 : TSQ69) (SQ70 : TSQ70) (SQ33 : TSQ33) (q_0 q_1 q_2 q_3 : Fl) (n : Bool) (n_1 : Int) (k0 : Bool -> Bool) : Bool :=
  (SQ70 n [] n_1 false [1] 0 (fun cr_3 nr_4 nr_5 => (cond (nr_5 != 0) (k0 false) (JQ161 N SQ10 SQ52 SQ69 SQ70 SQ33 q_0 q_1 q_2 q_3 cr_3 nr_4 k0))) (fun cr_4 nr_6 nr_7 nsr_1 => (cond (nr_7 != 0) (k0 false) (JQ162 N SQ10 SQ52 SQ69 SQ70 SQ33 q_0 q_1 q_2 q_3 nsr_1 cr_4 nr_6 k0))))

def GQ72 (N : Nat) (SQ10 : TSQ10) (SQ52 : TSQ52) (SQ69 : TSQ69) (SQ70 : TSQ70) (SQ33 : TSQ33) (q_0 q_1 q_2 q_3 : Fl) (k0 : Bool -> Bool) : Bool :=
  (SQ10 q_0 q_1 q_2 q_3 (fun cr => (cond (!cr) (k0 false) (SQ52 q_0 q_1 q_2 q_3 (SQ69 [q_0, q_1, q_2, q_3] [q_0, q_1, q_2, q_3] (fun cr_1 nr nr_1 => (cond (nr_1 != 0) (k0 false) (JQ154 N SQ10 SQ52 SQ69 SQ70 SQ33 q_0 q_1 q_2 q_3 cr_1 nr k0))) (fun cr_2 nr_2 nr_3 nsr => (cond (nr_3 != 0) (k0 false) (JQ155 N SQ10 SQ52 SQ69 SQ70 SQ33 q_0 q_1 q_2 q_3 nsr cr_2 nr_2 k0))))))))

def sQ72 (N : Nat) : TSQ72 := GQ72 N (sQ10 N) (sQ52 N) (sQ69 N) (sQ70 N) (sQ33 N)

abbrev TSQ68 : Type := (Fl -> Fl -> Fl -> Fl -> Bool) -> Bool

def GQ68 (N : Nat) (k0 : Fl -> Fl -> Fl -> Fl -> Bool) : Bool :=
  (k0 (some 4611686018427387904) (some 0) (some 0) (some 0))

def sQ68 (N : Nat) : TSQ68 := GQ68 N

abbrev TSQ42 : Type := (Bool -> Bool) -> Bool

def GQ42 (N : Nat) (SQ114 : TSQ114) (SQ81 : TSQ81) (SQ130 : TSQ130) (SQ72 : TSQ72) (SQ68 : TSQ68) (k0 : Bool -> Bool) : Bool :=
  (SQ114 (some 0) (some 4613937818241073152) (some 4616189618054758400) (some 0) (fun xr xr_1 xr_2 xr_3 nr => (SQ81 (some 4602678819172646912) (some 4602678819172646912) (some 4602678819172646912) (some 4602678819172646912) (some 4607182418800017408) (some 4611686018427387904) (some 4613937818241073152) (fun xr_4 xr_5 xr_6 nr_1 => (SQ130 (some 0) (some 4607182418800017408) (some 0) (some 0) (some 0) (some 0) (some 4607182418800017408) (some 0) (fun xr_7 xr_8 xr_9 xr_10 nr_2 => (cond ((nr == 0) == true) (cond ((feq xr_1 (some 4603579539098121011)) == true) (cond ((feq xr_2 (some 4605380978949069210)) == true) (cond ((nr_1 == 0) == true) (cond ((feq xr_4 (some 4613937818241073152)) == true) (cond ((feq xr_5 (some 4607182418800017408)) == true) (cond ((feq xr_6 (some 4611686018427387904)) == true) (cond ((nr_2 == 0) == true) (cond ((feq xr_10 (some 4607182418800017408)) == true) (cond ((feq xr_7 (some 0)) == true) (SQ72 (some 4602678819172646912) (some 4602678819172646912) (some 4602678819172646912) (some 4602678819172646912) (fun cr => (cond (cr == true) (SQ68 (fun xr_11 xr_12 xr_13 xr_14 => (SQ72 xr_11 xr_12 xr_13 xr_14 (fun cr_1 => (k0 (!cr_1)))))) (k0 false)))) (k0 false)) (k0 false)) (k0 false)) (k0 false)) (k0 false)) (k0 false)) (k0 false)) (k0 false)) (k0 false)) (k0 false))))))))

def sQ42 (N : Nat) : TSQ42 := GQ42 N (sQ114 N) (sQ81 N) (sQ130 N) (sQ72 N) (sQ68 N)

abbrev TSQ50 : Type := Int -> (Fl -> Bool) -> Bool

def GQ50 (N : Nat) (SQ75 : TSQ75) (b : Int) (k0 : Fl -> Bool) : Bool :=
  (SQ75 b (fun xr => (k0 xr)))

def sQ50 (N : Nat) : TSQ50 := GQ50 N (sQ75 N)

abbrev TSQ40 : Type := Int -> Int -> Int -> Int -> (Fl -> Fl -> Fl -> Fl -> Bool) -> Bool

def GQ40 (N : Nat) (SQ50 : TSQ50) (q_0 q_1 q_2 q_3 : Int) (k0 : Fl -> Fl -> Fl -> Fl -> Bool) : Bool :=
  (SQ50 q_0 (fun xr => (SQ50 q_1 (fun xr_1 => (SQ50 q_2 (fun xr_2 => (SQ50 q_3 (fun xr_3 => (k0 xr xr_1 xr_2 xr_3)))))))))

def sQ40 (N : Nat) : TSQ40 := GQ40 N (sQ50 N)

abbrev TSQ43 : Type := Int -> Int -> Int -> (Fl -> Fl -> Fl -> Bool) -> Bool

def GQ43 (N : Nat) (SQ50 : TSQ50) (v_0 v_1 v_2 : Int) (k0 : Fl -> Fl -> Fl -> Bool) : Bool :=
  (SQ50 v_0 (fun xr => (SQ50 v_1 (fun xr_1 => (SQ50 v_2 (fun xr_2 => (k0 xr xr_1 xr_2)))))))

def sQ43 (N : Nat) : TSQ43 := GQ43 N (sQ50 N)

abbrev TSQ46 : Type := Fl -> Fl -> Fl -> (Bool -> Bool) -> Bool

def GQ46 (N : Nat) (S_m_Abs : TS_m_Abs) (SQ102 : TSQ102) (v_0 v_1 v_2 : Fl) (k0 : Bool -> Bool) : Bool :=
  (S_m_Abs v_0 (fun xr => (cond ((!feq v_0 (some 0)) == true) (SQ102 (some 4607182418800017408) (-400) (fun xr_1 => (cond ((fge xr xr_1) == true) (SQ102 (some 4607182418800017408) 400 (fun xr_2 => (cond (!(fle xr xr_2)) (k0 false) (S_m_Abs v_1 (fun xr_3 => (cond ((!feq v_1 (some 0)) == true) (SQ102 (some 4607182418800017408) (-400) (fun xr_4 => (cond ((fge xr_3 xr_4) == true) (SQ102 (some 4607182418800017408) 400 (fun xr_5 => (cond (!(fle xr_3 xr_5)) (k0 false) (S_m_Abs v_2 (fun xr_6 => (cond ((!feq v_2 (some 0)) == true) (SQ102 (some 4607182418800017408) (-400) (fun xr_7 => (cond ((fge xr_6 xr_7) == true) (SQ102 (some 4607182418800017408) 400 (fun xr_8 => (cond (!(fle xr_6 xr_8)) (k0 false) (k0 true)))) (k0 false)))) (k0 true))))))) (k0 false)))) (S_m_Abs v_2 (fun xr_9 => (cond ((!feq v_2 (some 0)) == true) (SQ102 (some 4607182418800017408) (-400) (fun xr_10 => (cond ((fge xr_9 xr_10) == true) (SQ102 (some 4607182418800017408) 400 (fun xr_11 => (cond (!(fle xr_9 xr_11)) (k0 false) (k0 true)))) (k0 false)))) (k0 true)))))))))) (k0 false)))) (S_m_Abs v_1 (fun xr_12 => (cond ((!feq v_1 (some 0)) == true) (SQ102 (some 4607182418800017408) (-400) (fun xr_13 => (cond ((fge xr_12 xr_13) == true) (SQ102 (some 4607182418800017408) 400 (fun xr_14 => (cond (!(fle xr_12 xr_14)) (k0 false) (S_m_Abs v_2 (fun xr_15 => (cond ((!feq v_2 (some 0)) == true) (SQ102 (some 4607182418800017408) (-400) (fun xr_16 => (cond ((fge xr_15 xr_16) == true) (SQ102 (some 4607182418800017408) 400 (fun xr_17 => (cond (!(fle xr_15 xr_17)) (k0 false) (k0 true)))) (k0 false)))) (k0 true))))))) (k0 false)))) (S_m_Abs v_2 (fun xr_18 => (cond ((!feq v_2 (some 0)) == true) (SQ102 (some 4607182418800017408) (-400) (fun xr_19 => (cond ((fge xr_18 xr_19) == true) (SQ102 (some 4607182418800017408) 400 (fun xr_20 => (cond (!(fle xr_18 xr_20)) (k0 false) (k0 true)))) (k0 false)))) (k0 true))))))))))

def sQ46 (N : Nat) : TSQ46 := GQ46 (N + 24) (s_m_Abs N) (sQ102 N)

abbrev TSQ9 : Type := List Int -> (Nat -> Nat -> Bool) -> Bool

def stQ165 (N m_1 : Nat) (m_3 : List Int) (e0 : Nat -> Bool) : (Nat) -> ((Nat) -> Bool) -> Bool := fun v_ K => match v_ with
  | m_2 => (cond ((decide (((m_2 : Nat) : Int) > 0)) == true) ((fits .i64 (((m_2 : Nat) : Int) - 1)) && ((inR (((m_2 : Nat) : Int) - 1) m_2) && ((decide ((m_1 + (Int.toNat (((m_2 : Nat) : Int) - 1))) < (List.length m_3))) && (cond ((List.getD m_3 (m_1 + (Int.toNat (((m_2 : Nat) : Int) - 1))) 0) == 0) ((fits .i64 (((m_2 : Nat) : Int) - 1)) && ((decide (0 <= (((m_2 : Nat) : Int) - 1) /\ (((m_2 : Nat) : Int) - 1) <= ((m_2 : Nat) : Int))) && (K ((Int.toNat (((m_2 : Nat) : Int) - 1)) - 0)))) (e0 m_2))))) (e0 m_2))

def GQ9 (N : Nat) (b : List Int) (k0 : Nat -> Nat -> Bool) : Bool :=
  (iterG N (stQ165 N 0 b (fun m_4 => (k0 0 m_4))) (List.length b))

def sQ9 (N : Nat) : TSQ9 := GQ9 N

abbrev TSQ94 : Type := Int -> (List Int -> Bool) -> Bool

def GQ94 (N : Nat) (SQ9 : TSQ9) (n : Int) (k0 : List Int -> Bool) : Bool :=
  (SQ9 [(IntKind.wrap .u32 n), (IntKind.wrap .u32 (Int.fdiv n (2 ^ 32)))] (fun mr mr_1 => ((decide ((mr + mr_1) <= (List.length [(IntKind.wrap .u32 n), (IntKind.wrap .u32 (Int.fdiv n (2 ^ 32)))]))) && (k0 (List.take mr_1 (List.drop mr [(IntKind.wrap .u32 n), (IntKind.wrap .u32 (Int.fdiv n (2 ^ 32)))]))))))

def sQ94 (N : Nat) : TSQ94 := GQ94 N (sQ9 N)

abbrev TSQ136 : Type := List Int -> (List Int -> Bool) -> Bool

def st_z00_cut_0 (N : Nat) (e0 : List Int -> Bool) : (List Int) -> ((List Int) -> Bool) -> Bool := fun v_ K => match v_ with
  | m_1 => (cond ((decide ((((List.length m_1) : Nat) : Int) > 0)) == true) ((fits .i64 ((((List.length m_1) : Nat) : Int) - 1)) && ((inR ((((List.length m_1) : Nat) : Int) - 1) (List.length m_1)) && (cond ((List.getD m_1 (Int.toNat ((((List.length m_1) : Nat) : Int) - 1)) 0) == 0) ((fits .i64 ((((List.length m_1) : Nat) : Int) - 1)) && ((decide (0 <= ((((List.length m_1) : Nat) : Int) - 1) /\ ((((List.length m_1) : Nat) : Int) - 1) <= (((List.length m_1) : Nat) : Int))) && (K (List.drop 0 (List.take (Int.toNat ((((List.length m_1) : Nat) : Int) - 1)) m_1))))) (e0 m_1)))) (e0 m_1))

def GQ136 (N : Nat) (m : List Int) (k0 : List Int -> Bool) : Bool :=
  (iterG N (st_z00_cut_0 N (fun m_2 => (k0 m_2))) m)

def sQ136 (N : Nat) : TSQ136 := GQ136 N

abbrev TSQ44 : Type := Bool -> List Int -> Bool -> (Bool -> List Int -> Bool) -> Bool

def GQ44 (N : Nat) (SQ136 : TSQ136) (neg : Bool) (m : List Int) (b : Bool) (k0 : Bool -> List Int -> Bool) : Bool :=
  (SQ136 m (fun nsr => (cond (neg == true) (k0 (decide ((((List.length nsr) : Nat) : Int) > 0)) nsr) (k0 false nsr))))

def sQ44 (N : Nat) : TSQ44 := GQ44 N (sQ136 N)

abbrev TSQ71 : Type := Int -> Bool -> (Bool -> List Int -> Bool) -> Bool

def GQ71 (N : Nat) (SQ94 : TSQ94) (SQ44 : TSQ44) (n : Int) (b : Bool) (k0 : Bool -> List Int -> Bool) : Bool :=
  (cond (decide (n < 0)) (SQ94 (IntKind.wrap .u64 (0 - (IntKind.wrap .u64 n))) (fun nsr => (SQ44 (decide (n < 0)) nsr b (fun cr nsr_1 => (k0 cr nsr_1))))) (SQ94 (IntKind.wrap .u64 n) (fun nsr_2 => (SQ44 (decide (n < 0)) nsr_2 b (fun cr_1 nsr_3 => (k0 cr_1 nsr_3))))))

def sQ71 (N : Nat) : TSQ71 := GQ71 N (sQ94 N) (sQ44 N)

abbrev TSQ76 : Type := Int -> (Bool -> List Int -> Bool) -> Bool

def GQ76 (N : Nat) (SQ71 : TSQ71) (n : Int) (k0 : Bool -> List Int -> Bool) : Bool :=
  (SQ71 n false (fun cr nsr => (k0 cr nsr)))

def sQ76 (N : Nat) : TSQ76 := GQ76 N (sQ71 N)

abbrev TSQ100 : Type := Int -> (Int -> Bool -> List Int -> Bool) -> Bool

def GQ100 (N : Nat) (SQ76 : TSQ76) (n : Int) (k0 : Int -> Bool -> List Int -> Bool) : Bool :=
  (SQ76 n (fun cr nsr => (k0 0 cr nsr)))

def sQ100 (N : Nat) : TSQ100 := GQ100 N (sQ76 N)

abbrev TSQ99 : Type := Int -> (Bool -> List Int -> Bool) -> Bool

def GQ99 (N : Nat) (SQ76 : TSQ76) (e : Int) (k0 : Bool -> List Int -> Bool) : Bool :=
  (SQ76 1 (fun cr nsr => (k0 cr nsr)))

def sQ99 (N : Nat) : TSQ99 := GQ99 N (sQ76 N)

abbrev TSQ89 : Type := Bool -> Bool -> List Int -> (Bool -> Nat -> Nat -> Bool) -> Bool

def GQ89 (N : Nat) (SQ9 : TSQ9) (neg b : Bool) (b_1 : List Int) (k0 : Bool -> Nat -> Nat -> Bool) : Bool :=
  (SQ9 b_1 (fun mr mr_1 => (cond (neg == true) (k0 (decide (((mr_1 : Nat) : Int) > 0)) mr mr_1) (k0 false mr mr_1))))

def sQ89 (N : Nat) : TSQ89 := GQ89 N (sQ9 N)

abbrev TSQ80 : Type := Bool -> Bool -> List Int -> (Bool -> List Int -> Bool) -> Bool

def GQ80 (N : Nat) (SQ89 : TSQ89) (b b_1 : Bool) (b_2 : List Int) (k0 : Bool -> List Int -> Bool) : Bool :=
  ((decide ((List.length ([] ++ b_2)) * 4 <= 140737488355328)) && (SQ89 (!b_1) b ([] ++ b_2) (fun cr mr mr_1 => ((decide ((mr + mr_1) <= (List.length ([] ++ b_2)))) && (k0 cr (List.take mr_1 (List.drop mr ([] ++ b_2))))))))

def sQ80 (N : Nat) : TSQ80 := GQ80 N (sQ89 N)

abbrev TSQ21 : Type := Int -> Bool -> List Int -> (Bool -> List Int -> Bool) -> Bool

def GQ21 (N : Nat) (SQ80 : TSQ80) (x : Int) (b : Bool) (b_1 : List Int) (k0 : Bool -> List Int -> Bool) : Bool :=
  (SQ80 false b b_1 (fun cr nsr => (k0 cr nsr)))

def sQ21 (N : Nat) : TSQ21 := GQ21 N (sQ80 N)

abbrev TSQ55 : Type := Bool -> List Int -> (Int -> Bool) -> Bool

def GQ55 (N : Nat) (b : Bool) (b_1 : List Int) (k0 : Int -> Bool) : Bool :=
  (cond ((((List.length b_1) : Nat) : Int) == 0) (k0 0) (cond b (k0 (-1)) (k0 1)))

def sQ55 (N : Nat) : TSQ55 := GQ55 N

abbrev TSQ124 : Type := List Int -> Int -> (List Int -> Bool) -> Bool

def st_z00_left_0 (N : Nat) (SQ9 : TSQ9) (m_1 : List Int) (w s : Int) (e0 : List Int -> Bool) : (Int × List Int) -> ((Int × List Int) -> Bool) -> Bool := fun v_ K => match v_ with
  | (i, out) => (cond (decide (i < (((List.length m_1) : Nat) : Int))) ((inR i (List.length m_1)) && ((decide (0 <= s)) && ((fits .i64 (w + i)) && ((inR (w + i) (List.length out)) && ((decide ((Int.toNat (w + i)) < (List.length out))) && ((inR (w + i) (List.length out)) && ((decide ((Int.toNat (w + i)) < (List.length out))) && ((fits .i64 (w + i)) && ((fits .i64 ((w + i) + 1)) && ((inR ((w + i) + 1) (List.length (List.set out (Int.toNat (w + i)) (bitsN .or .u32 (List.getD out (Int.toNat (w + i)) 0) (IntKind.wrap .u32 (IntKind.wrap .u64 ((IntKind.wrap .u64 (List.getD m_1 (Int.toNat i) 0)) * 2 ^ (min (Int.toNat s) 64)))))))) && ((decide ((Int.toNat ((w + i) + 1)) < (List.length (List.set out (Int.toNat (w + i)) (bitsN .or .u32 (List.getD out (Int.toNat (w + i)) 0) (IntKind.wrap .u32 (IntKind.wrap .u64 ((IntKind.wrap .u64 (List.getD m_1 (Int.toNat i) 0)) * 2 ^ (min (Int.toNat s) 64))))))))) && ((fits .i64 (i + 1)) && (K ((i + 1), (List.set (List.set out (Int.toNat (w + i)) (bitsN .or .u32 (List.getD out (Int.toNat (w + i)) 0) (IntKind.wrap .u32 (IntKind.wrap .u64 ((IntKind.wrap .u64 (List.getD m_1 (Int.toNat i) 0)) * 2 ^ (min (Int.toNat s) 64)))))) (Int.toNat ((w + i) + 1)) (IntKind.wrap .u32 (Int.fdiv (IntKind.wrap .u64 ((IntKind.wrap .u64 (List.getD m_1 (Int.toNat i) 0)) * 2 ^ (min (Int.toNat s) 64))) (2 ^ 32)))))))))))))))))) (e0 out))

def GQ124 (N : Nat) (SQ9 : TSQ9) (m : List Int) (n : Int) (k0 : List Int -> Bool) : Bool :=
  (cond ((((List.length m) : Nat) : Int) == 0) (k0 []) ((fits .i64 (IntKind.wrap .u64 (Int.tdiv n 32))) && ((fits .i64 ((IntKind.wrap .u64 (Int.tdiv n 32)) + (((List.length m) : Nat) : Int))) && ((fits .i64 (((IntKind.wrap .u64 (Int.tdiv n 32)) + (((List.length m) : Nat) : Int)) + 1)) && ((mkOk 4 (((IntKind.wrap .u64 (Int.tdiv n 32)) + (((List.length m) : Nat) : Int)) + 1) (((IntKind.wrap .u64 (Int.tdiv n 32)) + (((List.length m) : Nat) : Int)) + 1)) && (iterG N (st_z00_left_0 N SQ9 m (IntKind.wrap .u64 (Int.tdiv n 32)) (Int.tmod n 32) (fun out_1 => (SQ9 out_1 (fun mr mr_1 => ((decide ((mr + mr_1) <= (List.length out_1))) && (k0 (List.take mr_1 (List.drop mr out_1)))))))) (0, (List.replicate (Int.toNat (((IntKind.wrap .u64 (Int.tdiv n 32)) + (((List.length m) : Nat) : Int)) + 1)) (0 : Int)))))))))

def sQ124 (N : Nat) : TSQ124 := GQ124 N (sQ9 N)

abbrev TSQ79 : Type := Int -> Bool -> Bool -> List Int -> (Bool -> List Int -> Bool) -> Bool

def GQ79 (N : Nat) (SQ124 : TSQ124) (SQ44 : TSQ44) (n : Int) (b b_1 : Bool) (b_2 : List Int) (k0 : Bool -> List Int -> Bool) : Bool :=
  (SQ124 b_2 n (fun nsr => (SQ44 b_1 nsr b (fun cr nsr_1 => (k0 cr nsr_1)))))

def sQ79 (N : Nat) : TSQ79 := GQ79 N (sQ124 N) (sQ44 N)

abbrev TSQ26 : Type := Int -> Int -> Bool -> List Int -> (Bool) -> (Bool -> List Int -> Bool) -> Bool

def GQ26 (N : Nat) (SQ79 : TSQ79) (x e : Int) (b : Bool) (b_1 : List Int) (k0 : Bool) (k1 : Bool -> List Int -> Bool) : Bool :=
  (cond (decide (e >= x)) k0 ((fits .i64 (x - e)) && (SQ79 (IntKind.wrap .u64 (x - e)) false b b_1 (fun cr nsr => (k1 cr nsr)))))

def sQ26 (N : Nat) : TSQ26 := GQ26 N (sQ79 N)

abbrev TSQ125 : Type := List Int -> List Int -> (List Int -> Bool) -> Bool

def st_z00_plus_0 (N : Nat) (SQ9 : TSQ9) (a_1 b_1 : List Int) (e0 : Int -> List Int -> Bool) : (Int × Int × List Int) -> ((Int × Int × List Int) -> Bool) -> Bool := fun v_ K => match v_ with
  | (carry, i, out) => (cond (decide (i < (((List.length a_1) : Nat) : Int))) ((inR i (List.length a_1)) && (cond (decide (i < (((List.length b_1) : Nat) : Int))) ((inR i (List.length b_1)) && ((inR i (List.length out)) && ((decide ((Int.toNat i) < (List.length out))) && ((fits .i64 (i + 1)) && (K ((Int.fdiv (IntKind.wrap .u64 ((IntKind.wrap .u64 ((IntKind.wrap .u64 (List.getD a_1 (Int.toNat i) 0)) + carry)) + (IntKind.wrap .u64 (List.getD b_1 (Int.toNat i) 0)))) (2 ^ 32)), (i + 1), (List.set out (Int.toNat i) (IntKind.wrap .u32 (IntKind.wrap .u64 ((IntKind.wrap .u64 ((IntKind.wrap .u64 (List.getD a_1 (Int.toNat i) 0)) + carry)) + (IntKind.wrap .u64 (List.getD b_1 (Int.toNat i) 0)))))))))))) ((inR i (List.length out)) && ((decide ((Int.toNat i) < (List.length out))) && ((fits .i64 (i + 1)) && (K ((Int.fdiv (IntKind.wrap .u64 ((IntKind.wrap .u64 (List.getD a_1 (Int.toNat i) 0)) + carry)) (2 ^ 32)), (i + 1), (List.set out (Int.toNat i) (IntKind.wrap .u32 (IntKind.wrap .u64 ((IntKind.wrap .u64 (List.getD a_1 (Int.toNat i) 0)) + carry))))))))))) (e0 carry out))

def GQ125 (N : Nat) (SQ9 : TSQ9) (a b : List Int) (k0 : List Int -> Bool) : Bool :=
  (cond (decide ((((List.length a) : Nat) : Int) < (((List.length b) : Nat) : Int))) ((fits .i64 ((((List.length b) : Nat) : Int) + 1)) && ((mkOk 4 ((((List.length b) : Nat) : Int) + 1) ((((List.length b) : Nat) : Int) + 1)) && (iterG N (st_z00_plus_0 N SQ9 b a (fun carry_1 out_1 => ((inR (((List.length b) : Nat) : Int) (List.length out_1)) && ((decide ((Int.toNat (((List.length b) : Nat) : Int)) < (List.length out_1))) && (SQ9 (List.set out_1 (Int.toNat (((List.length b) : Nat) : Int)) (IntKind.wrap .u32 carry_1)) (fun mr mr_1 => ((decide ((mr + mr_1) <= (List.length (List.set out_1 (Int.toNat (((List.length b) : Nat) : Int)) (IntKind.wrap .u32 carry_1))))) && (k0 (List.take mr_1 (List.drop mr (List.set out_1 (Int.toNat (((List.length b) : Nat) : Int)) (IntKind.wrap .u32 carry_1)))))))))))) (0, 0, (List.replicate (Int.toNat ((((List.length b) : Nat) : Int) + 1)) (0 : Int)))))) ((fits .i64 ((((List.length a) : Nat) : Int) + 1)) && ((mkOk 4 ((((List.length a) : Nat) : Int) + 1) ((((List.length a) : Nat) : Int) + 1)) && (iterG N (st_z00_plus_0 N SQ9 a b (fun carry_2 out_2 => ((inR (((List.length a) : Nat) : Int) (List.length out_2)) && ((decide ((Int.toNat (((List.length a) : Nat) : Int)) < (List.length out_2))) && (SQ9 (List.set out_2 (Int.toNat (((List.length a) : Nat) : Int)) (IntKind.wrap .u32 carry_2)) (fun mr_2 mr_3 => ((decide ((mr_2 + mr_3) <= (List.length (List.set out_2 (Int.toNat (((List.length a) : Nat) : Int)) (IntKind.wrap .u32 carry_2))))) && (k0 (List.take mr_3 (List.drop mr_2 (List.set out_2 (Int.toNat (((List.length a) : Nat) : Int)) (IntKind.wrap .u32 carry_2)))))))))))) (0, 0, (List.replicate (Int.toNat ((((List.length a) : Nat) : Int) + 1)) (0 : Int)))))))

def sQ125 (N : Nat) : TSQ125 := GQ125 N (sQ9 N)

abbrev TSQ93 : Type := List Int -> List Int -> (Int -> Bool) -> Bool

def stQ158 (N : Nat) (a_1 b_1 : List Int) (e0 : Int -> Bool) (e1 : Bool) : (Int) -> ((Int) -> Bool) -> Bool := fun v_ K => match v_ with
  | i => (cond (decide (i >= 0)) ((inR i (List.length a_1)) && ((inR i (List.length b_1)) && (cond (decide ((List.getD a_1 (Int.toNat i) 0) < (List.getD b_1 (Int.toNat i) 0))) (e0 (-1)) ((inR i (List.length a_1)) && ((inR i (List.length b_1)) && (cond (decide ((List.getD a_1 (Int.toNat i) 0) > (List.getD b_1 (Int.toNat i) 0))) (e0 1) ((fits .i64 (i - 1)) && (K (i - 1))))))))) e1)

def GQ93 (N : Nat) (a b : List Int) (k0 : Int -> Bool) : Bool :=
  (cond ((((List.length a) : Nat) : Int) != (((List.length b) : Nat) : Int)) (cond (decide ((((List.length a) : Nat) : Int) < (((List.length b) : Nat) : Int))) (k0 (-1)) (k0 1)) ((fits .i64 ((((List.length a) : Nat) : Int) - 1)) && (iterG N (stQ158 N a b (fun t4 => (k0 t4)) (k0 0)) ((((List.length a) : Nat) : Int) - 1))))

def sQ93 (N : Nat) : TSQ93 := GQ93 N

abbrev TSQ113 : Type := List Int -> List Int -> (List Int -> Bool) -> Bool

def st_z00_minus_0 (N : Nat) (SQ9 : TSQ9) (a_1 b_1 : List Int) (e0 : List Int -> Bool) : (Int × Int × List Int) -> ((Int × Int × List Int) -> Bool) -> Bool := fun v_ K => match v_ with
  | (borrow, i, out) => (cond (decide (i < (((List.length a_1) : Nat) : Int))) (cond (decide (i < (((List.length b_1) : Nat) : Int))) ((inR i (List.length b_1)) && ((inR i (List.length a_1)) && (cond (decide ((IntKind.wrap .u64 (List.getD a_1 (Int.toNat i) 0)) < (IntKind.wrap .u64 (borrow + (IntKind.wrap .u64 (List.getD b_1 (Int.toNat i) 0)))))) ((inR i (List.length out)) && ((decide ((Int.toNat i) < (List.length out))) && ((fits .i64 (i + 1)) && (K (1, (i + 1), (List.set out (Int.toNat i) (IntKind.wrap .u32 (IntKind.wrap .u64 ((IntKind.wrap .u64 ((IntKind.wrap .u64 (List.getD a_1 (Int.toNat i) 0)) + 4294967296)) - (IntKind.wrap .u64 (borrow + (IntKind.wrap .u64 (List.getD b_1 (Int.toNat i) 0))))))))))))) ((inR i (List.length out)) && ((decide ((Int.toNat i) < (List.length out))) && ((fits .i64 (i + 1)) && (K (0, (i + 1), (List.set out (Int.toNat i) (IntKind.wrap .u32 (IntKind.wrap .u64 ((IntKind.wrap .u64 (List.getD a_1 (Int.toNat i) 0)) - (IntKind.wrap .u64 (borrow + (IntKind.wrap .u64 (List.getD b_1 (Int.toNat i) 0)))))))))))))))) ((inR i (List.length a_1)) && (cond (decide ((IntKind.wrap .u64 (List.getD a_1 (Int.toNat i) 0)) < borrow)) ((inR i (List.length out)) && ((decide ((Int.toNat i) < (List.length out))) && ((fits .i64 (i + 1)) && (K (1, (i + 1), (List.set out (Int.toNat i) (IntKind.wrap .u32 (IntKind.wrap .u64 ((IntKind.wrap .u64 ((IntKind.wrap .u64 (List.getD a_1 (Int.toNat i) 0)) + 4294967296)) - borrow))))))))) ((inR i (List.length out)) && ((decide ((Int.toNat i) < (List.length out))) && ((fits .i64 (i + 1)) && (K (0, (i + 1), (List.set out (Int.toNat i) (IntKind.wrap .u32 (IntKind.wrap .u64 ((IntKind.wrap .u64 (List.getD a_1 (Int.toNat i) 0)) - borrow)))))))))))) (e0 out))

def GQ113 (N : Nat) (SQ9 : TSQ9) (a b : List Int) (k0 : List Int -> Bool) : Bool :=
  ((mkOk 4 (((List.length a) : Nat) : Int) (((List.length a) : Nat) : Int)) && (iterG N (st_z00_minus_0 N SQ9 a b (fun out_1 => (SQ9 out_1 (fun mr mr_1 => ((decide ((mr + mr_1) <= (List.length out_1))) && (k0 (List.take mr_1 (List.drop mr out_1)))))))) (0, 0, (List.replicate (Int.toNat (((List.length a) : Nat) : Int)) (0 : Int)))))

def sQ113 (N : Nat) : TSQ113 := GQ113 N (sQ9 N)

abbrev TSQ66 : Type := Bool -> Bool -> Bool -> List Int -> Bool -> List Int -> (Bool -> List Int -> Bool) -> Bool

def GQ66 (N : Nat) (SQ125 : TSQ125) (SQ44 : TSQ44) (SQ93 : TSQ93) (SQ113 : TSQ113) (turn b b_1 : Bool) (b_2 : List Int) (b_3 : Bool) (b_4 : List Int) (k0 : Bool -> List Int -> Bool) : Bool :=
  (cond (b_1 == (b_3 != turn)) (SQ125 b_2 b_4 (fun nsr => (SQ44 (b_3 != turn) nsr b (fun cr nsr_1 => (k0 cr nsr_1))))) (SQ93 b_2 b_4 (fun nr => (cond (decide (nr >= 0)) (SQ113 b_2 b_4 (fun nsr_2 => (SQ44 b_1 nsr_2 b (fun cr_1 nsr_3 => (k0 cr_1 nsr_3))))) (SQ113 b_4 b_2 (fun nsr_4 => (SQ44 (b_3 != turn) nsr_4 b (fun cr_2 nsr_5 => (k0 cr_2 nsr_5)))))))))

def sQ66 (N : Nat) : TSQ66 := GQ66 N (sQ125 N) (sQ44 N) (sQ93 N) (sQ113 N)

abbrev TSQ39 : Type := Bool -> Bool -> List Int -> Bool -> List Int -> (Bool -> List Int -> Bool) -> Bool

def GQ39 (N : Nat) (SQ66 : TSQ66) (b b_1 : Bool) (b_2 : List Int) (b_3 : Bool) (b_4 : List Int) (k0 : Bool -> List Int -> Bool) : Bool :=
  (SQ66 false b b_1 b_2 b_3 b_4 (fun cr nsr => (k0 cr nsr)))

def sQ39 (N : Nat) : TSQ39 := GQ39 N (sQ66 N)

abbrev TSQ3 : Type := Int -> Int -> Bool -> List Int -> Bool -> List Int -> (Bool) -> (Bool) -> (Int -> Bool -> List Int -> Bool) -> Bool

def GQ3 (N : Nat) (SQ55 : TSQ55) (SQ26 : TSQ26) (SQ39 : TSQ39) (x y : Int) (b : Bool) (b_1 : List Int) (b_2 : Bool) (b_3 : List Int) (k0 k1 : Bool) (k2 : Int -> Bool -> List Int -> Bool) : Bool :=
  (SQ55 b b_1 (fun nr => (cond (nr == 0) k0 (SQ55 b_2 b_3 (fun nr_1 => (cond (nr_1 == 0) k1 (SQ26 x (imm false x y) b b_1 (SQ26 y (imm false x y) b_2 b_3 (SQ39 false b b_1 b_2 b_3 (fun cr nsr => (k2 (imm false x y) cr nsr))) (fun cr_1 nsr_1 => (SQ39 false b b_1 cr_1 nsr_1 (fun cr_2 nsr_2 => (k2 (imm false x y) cr_2 nsr_2))))) (fun cr_3 nsr_3 => (SQ26 y (imm false x y) b_2 b_3 (SQ39 false cr_3 nsr_3 b_2 b_3 (fun cr_4 nsr_4 => (k2 (imm false x y) cr_4 nsr_4))) (fun cr_5 nsr_5 => (SQ39 false cr_3 nsr_3 cr_5 nsr_5 (fun cr_6 nsr_6 => (k2 (imm false x y) cr_6 nsr_6)))))))))))))

def sQ3 (N : Nat) : TSQ3 := GQ3 N (sQ55 N) (sQ26 N) (sQ39 N)

abbrev TSQ105 : Type := (Int -> Bool -> Bool) -> Bool

def GQ105 (N : Nat) (k0 : Int -> Bool -> Bool) : Bool :=
  (k0 0 false)

def sQ105 (N : Nat) : TSQ105 := GQ105 N

abbrev TSQ128 : Type := Fl -> (Int -> Bool) -> Bool

def GQ128 (N : Nat) (SQ96 : TSQ96) (x : Fl) (k0 : Int -> Bool) : Bool :=
  (cond (!feq x x) (k0 9221120237041090561) (SQ96 x (fun nr => (k0 nr))))

def sQ128 (N : Nat) : TSQ128 := GQ128 N (sQ96 N)

abbrev TSQ95 : Type := Fl -> (Bool -> Int -> Int -> Bool) -> Bool

def GQ95 (N : Nat) (SQ128 : TSQ128) (x : Fl) (k0 : Bool -> Int -> Int -> Bool) : Bool :=
  (SQ128 x (fun nr => ((fits .i64 (Int.tmod (Int.fdiv nr (2 ^ 52)) 2048)) && (k0 ((Int.fdiv nr (2 ^ 63)) == 1) (Int.tmod (Int.fdiv nr (2 ^ 52)) 2048) (Int.tmod nr 4503599627370496)))))

def sQ95 (N : Nat) : TSQ95 := GQ95 N (sQ128 N)

abbrev TSQ116 : Type := Int -> Int -> (Int -> Int -> Bool) -> Bool

def st_z01_odd_0 (N : Nat) (e0 : Int -> Int -> Bool) : (Int × Int) -> ((Int × Int) -> Bool) -> Bool := fun v_ K => match v_ with
  | (m_1, e_1) => (cond ((Int.tmod m_1 2) == 0) ((fits .i64 (e_1 + 1)) && (K ((IntKind.wrap .u64 (Int.tdiv m_1 2)), (e_1 + 1)))) (e0 m_1 e_1))

def GQ116 (N : Nat) (m e : Int) (k0 : Int -> Int -> Bool) : Bool :=
  (cond (m == 0) (k0 0 0) (iterG N (st_z01_odd_0 N (fun m_2 e_2 => (k0 m_2 e_2))) (m, e)))

def sQ116 (N : Nat) : TSQ116 := GQ116 N

abbrev TSQ112 : Type := Fl -> (Bool -> Int -> Int -> Int -> Bool) -> Bool

def JQ156 (N : Nat) (SQ95 : TSQ95) (SQ116 : TSQ116) (x : Fl) (neg : Bool) (e f : Int) (k0 : Bool -> Int -> Int -> Int -> Bool) : Bool :=
  ((fits .i64 (e - 1074)) && (SQ116 f (e - 1074) (fun nr_2 nr_3 => (k0 neg nr_2 nr_3 0))))

def GQ112 (N : Nat) (SQ95 : TSQ95) (SQ116 : TSQ116) (x : Fl) (k0 : Bool -> Int -> Int -> Int -> Bool) : Bool :=
  (SQ95 x (fun cr nr nr_1 => (cond (nr == 2047) (k0 false 0 0 4) (cond (decide (nr > 0)) ((fits .i64 (nr - 1)) && (JQ156 N SQ95 SQ116 x cr (nr - 1) (IntKind.wrap .u64 (nr_1 + 4503599627370496)) k0)) (JQ156 N SQ95 SQ116 x cr nr nr_1 k0)))))

def sQ112 (N : Nat) : TSQ112 := GQ112 N (sQ95 N) (sQ116 N)

abbrev TSQ62 : Type := Int -> Bool -> (Bool -> List Int -> Bool) -> Bool

def GQ62 (N : Nat) (SQ94 : TSQ94) (SQ44 : TSQ44) (n : Int) (b : Bool) (k0 : Bool -> List Int -> Bool) : Bool :=
  (SQ94 n (fun nsr => (SQ44 false nsr b (fun cr nsr_1 => (k0 cr nsr_1)))))

def sQ62 (N : Nat) : TSQ62 := GQ62 N (sQ94 N) (sQ44 N)

abbrev TSQ90 : Type := Bool -> Bool -> List Int -> List Int -> (Bool -> Nat -> Nat -> Bool) -> Bool

def GQ90 (N : Nat) (SQ9 : TSQ9) (neg b : Bool) (b_1 b_2 : List Int) (k0 : Bool -> Nat -> Nat -> Bool) : Bool :=
  (SQ9 b_2 (fun mr mr_1 => (cond (neg == true) (k0 (decide (((mr_1 : Nat) : Int) > 0)) mr mr_1) (k0 false mr mr_1))))

def sQ90 (N : Nat) : TSQ90 := GQ90 N (sQ9 N)

abbrev TSQ87 : Type := Bool -> List Int -> (Bool -> List Int -> Bool) -> Bool

def GQ87 (N : Nat) (SQ90 : TSQ90) (b : Bool) (b_1 : List Int) (k0 : Bool -> List Int -> Bool) : Bool :=
  ((decide ((List.length ([] ++ b_1)) * 4 <= 140737488355328)) && (SQ90 (!b) b b_1 ([] ++ b_1) (fun cr mr mr_1 => ((decide ((mr + mr_1) <= (List.length ([] ++ b_1)))) && (k0 cr (List.take mr_1 (List.drop mr ([] ++ b_1))))))))

def sQ87 (N : Nat) : TSQ87 := GQ87 N (sQ90 N)

abbrev TSQ135 : Type := Fl -> (Int -> Bool -> List Int -> Bool) -> Bool

def GQ135 (N : Nat) (SQ112 : TSQ112) (SQ62 : TSQ62) (SQ87 : TSQ87) (x : Fl) (k0 : Int -> Bool -> List Int -> Bool) : Bool :=
  (SQ112 x (fun cr nr nr_1 nr_2 => (SQ62 nr false (fun cr_1 nsr => (cond cr (SQ87 cr_1 nsr (fun cr_2 nsr_1 => (k0 nr_1 cr_2 nsr_1))) (k0 nr_1 cr_1 nsr))))))

def sQ135 (N : Nat) : TSQ135 := GQ135 N (sQ112 N) (sQ62 N) (sQ87 N)

abbrev TSQ111 : Type := List Int -> List Int -> (List Int -> Bool) -> Bool

def st_z00_times_2 (N : Nat) (SQ9 : TSQ9) (a_2 b_2 : List Int) (i_1 : Int) (e0 : Int -> List Int -> Bool) : (Int × Int × List Int) -> ((Int × Int × List Int) -> Bool) -> Bool := fun v_ K => match v_ with
  | (carry, k_, out_1) => (cond (decide (k_ < (((List.length b_2) : Nat) : Int))) ((inR i_1 (List.length a_2)) && ((inR k_ (List.length b_2)) && ((fits .i64 (i_1 + k_)) && ((inR (i_1 + k_) (List.length out_1)) && ((decide ((Int.toNat (i_1 + k_)) < (List.length out_1))) && ((fits .i64 (i_1 + k_)) && ((inR (i_1 + k_) (List.length out_1)) && ((decide ((Int.toNat (i_1 + k_)) < (List.length out_1))) && ((fits .i64 (k_ + 1)) && (K ((Int.fdiv (IntKind.wrap .u64 ((IntKind.wrap .u64 ((IntKind.wrap .u64 ((IntKind.wrap .u64 (List.getD a_2 (Int.toNat i_1) 0)) * (IntKind.wrap .u64 (List.getD b_2 (Int.toNat k_) 0)))) + (IntKind.wrap .u64 (List.getD out_1 (Int.toNat (i_1 + k_)) 0)))) + carry)) (2 ^ 32)), (k_ + 1), (List.set out_1 (Int.toNat (i_1 + k_)) (IntKind.wrap .u32 (IntKind.wrap .u64 ((IntKind.wrap .u64 ((IntKind.wrap .u64 ((IntKind.wrap .u64 (List.getD a_2 (Int.toNat i_1) 0)) * (IntKind.wrap .u64 (List.getD b_2 (Int.toNat k_) 0)))) + (IntKind.wrap .u64 (List.getD out_1 (Int.toNat (i_1 + k_)) 0)))) + carry))))))))))))))) (e0 carry out_1))

def st_z00_times_0 (N : Nat) (SQ9 : TSQ9) (a_1 b_1 : List Int) (e0 : List Int -> Bool) : (Int × List Int) -> ((Int × List Int) -> Bool) -> Bool := fun v_ K => match v_ with
  | (i, out) => (cond (decide (i < (((List.length a_1) : Nat) : Int))) (iterG N (st_z00_times_2 N SQ9 a_1 b_1 i (fun carry_1 out_2 => ((fits .i64 (i + (((List.length b_1) : Nat) : Int))) && ((inR (i + (((List.length b_1) : Nat) : Int)) (List.length out_2)) && ((decide ((Int.toNat (i + (((List.length b_1) : Nat) : Int))) < (List.length out_2))) && ((fits .i64 (i + 1)) && (K ((i + 1), (List.set out_2 (Int.toNat (i + (((List.length b_1) : Nat) : Int))) (IntKind.wrap .u32 carry_1)))))))))) (0, 0, out)) (e0 out))

def GQ111 (N : Nat) (SQ9 : TSQ9) (a b : List Int) (k0 : List Int -> Bool) : Bool :=
  ((fits .i64 ((((List.length a) : Nat) : Int) + (((List.length b) : Nat) : Int))) && ((mkOk 4 ((((List.length a) : Nat) : Int) + (((List.length b) : Nat) : Int)) ((((List.length a) : Nat) : Int) + (((List.length b) : Nat) : Int))) && (iterG N (st_z00_times_0 N SQ9 a b (fun out_3 => (SQ9 out_3 (fun mr mr_1 => ((decide ((mr + mr_1) <= (List.length out_3))) && (k0 (List.take mr_1 (List.drop mr out_3)))))))) (0, (List.replicate (Int.toNat ((((List.length a) : Nat) : Int) + (((List.length b) : Nat) : Int))) (0 : Int))))))

def sQ111 (N : Nat) : TSQ111 := GQ111 N (sQ9 N)

abbrev TSQ65 : Type := Bool -> Bool -> List Int -> Bool -> List Int -> (Bool -> List Int -> Bool) -> Bool

def GQ65 (N : Nat) (SQ111 : TSQ111) (SQ44 : TSQ44) (b b_1 : Bool) (b_2 : List Int) (b_3 : Bool) (b_4 : List Int) (k0 : Bool -> List Int -> Bool) : Bool :=
  (SQ111 b_2 b_4 (fun nsr => (SQ44 (b_1 != b_3) nsr b (fun cr nsr_1 => (k0 cr nsr_1)))))

def sQ65 (N : Nat) : TSQ65 := GQ65 N (sQ111 N) (sQ44 N)

abbrev TSQ2 : Type := Int -> Int -> Bool -> List Int -> Bool -> List Int -> (Int -> Bool -> List Int -> Bool) -> Bool

def GQ2 (N : Nat) (SQ65 : TSQ65) (x y : Int) (b : Bool) (b_1 : List Int) (b_2 : Bool) (b_3 : List Int) (k0 : Int -> Bool -> List Int -> Bool) : Bool :=
  (SQ65 false b b_1 b_2 b_3 (fun cr nsr => ((fits .i64 (x + y)) && (k0 (x + y) cr nsr))))

def sQ2 (N : Nat) : TSQ2 := GQ2 N (sQ65 N)

abbrev TSQ98 : Type := Bool -> (Int -> List Int -> Bool) -> Bool

def GQ98 (N : Nat) (b : Bool) (k0 : Int -> List Int -> Bool) : Bool :=
  (k0 0 [])

def sQ98 (N : Nat) : TSQ98 := GQ98 N

abbrev TSQ17 : Type := Int -> Int -> Bool -> Bool -> List Int -> (List Int -> Bool) -> (List Int -> Bool) -> (Int -> List Int -> Bool -> List Int -> Bool) -> Bool

def GQ17 (N : Nat) (SQ98 : TSQ98) (SQ55 : TSQ55) (SQ26 : TSQ26) (SQ39 : TSQ39) (x y : Int) (b b_1 : Bool) (b_2 : List Int) (k0 : List Int -> Bool) (k1 : List Int -> Bool) (k2 : Int -> List Int -> Bool -> List Int -> Bool) : Bool :=
  (SQ98 b (fun nr nsr => (cond (nr == 0) (k0 nsr) (SQ55 b_1 b_2 (fun nr_1 => (cond (nr_1 == 0) (k1 nsr) (SQ26 x (imm false x y) b nsr (SQ26 y (imm false x y) b_1 b_2 (SQ39 false b nsr b_1 b_2 (fun cr nsr_1 => (k2 (imm false x y) nsr cr nsr_1))) (fun cr_1 nsr_2 => (SQ39 false b nsr cr_1 nsr_2 (fun cr_2 nsr_3 => (k2 (imm false x y) nsr cr_2 nsr_3))))) (fun cr_3 nsr_4 => (SQ26 y (imm false x y) b_1 b_2 (SQ39 false cr_3 nsr_4 b_1 b_2 (fun cr_4 nsr_5 => (k2 (imm false x y) nsr cr_4 nsr_5))) (fun cr_5 nsr_6 => (SQ39 false cr_3 nsr_4 cr_5 nsr_6 (fun cr_6 nsr_7 => (k2 (imm false x y) nsr cr_6 nsr_7)))))))))))))

def sQ17 (N : Nat) : TSQ17 := GQ17 N (sQ98 N) (sQ55 N) (sQ26 N) (sQ39 N)

abbrev TSQ137 : Type := List Fl -> List Fl -> (Int -> Bool -> List Int -> Bool) -> Bool

def st_z03_Dot_0 (N : Nat) (SQ105 : TSQ105) (SQ135 : TSQ135) (SQ2 : TSQ2) (SQ17 : TSQ17) (SQ3 : TSQ3) (a_2 b_2 : List Fl) (t9_1 : Int) (t4_2 : Value) (t4_3 : Int) (e0 : Int -> Bool -> List Int -> Bool) : (Int × Int × Bool × List Int) -> ((Int × Int × Bool × List Int) -> Bool) -> Bool := fun v_ K => match v_ with
  | (t10_1, s_1, b2_1, b2_2) => (cond (decide (t10_1 < t9_1)) ((inR t10_1 (List.length a_2)) && (SQ135 (List.getD a_2 (Int.toNat t10_1) none) (fun nr_4 cr_4 nsr_4 => ((inR t10_1 (List.length b_2)) && (SQ135 (List.getD b_2 (Int.toNat t10_1) none) (fun nr_5 cr_5 nsr_5 => (SQ2 nr_4 nr_5 cr_4 nsr_4 cr_5 nsr_5 (fun nr_6 cr_6 nsr_6 => (SQ3 s_1 nr_6 b2_1 b2_2 cr_6 nsr_6 ((fits .i64 (t10_1 + 1)) && (K ((t10_1 + 1), nr_6, cr_6, nsr_6))) ((fits .i64 (t10_1 + 1)) && (K ((t10_1 + 1), s_1, b2_1, b2_2))) (fun nr_7 cr_7 nsr_7 => ((fits .i64 (t10_1 + 1)) && (K ((t10_1 + 1), nr_7, cr_7, nsr_7))))))))))))) (e0 s_1 b2_1 b2_2))

def GQ137 (N : Nat) (SQ105 : TSQ105) (SQ135 : TSQ135) (SQ2 : TSQ2) (SQ17 : TSQ17) (SQ3 : TSQ3) (a b : List Fl) (k0 : Int -> Bool -> List Int -> Bool) : Bool :=
  (SQ105 (fun nr cr => (iterG N (st_z03_Dot_0 N SQ105 SQ135 SQ2 SQ17 SQ3 a b (((List.length a) : Nat) : Int) (.pointer none) 0 (fun s_2 b2_3 b2_4 => (k0 s_2 b2_3 b2_4))) (0, nr, cr, []))))

def sQ137 (N : Nat) : TSQ137 := GQ137 N (sQ105 N) (sQ135 N) (sQ2 N) (sQ17 N) (sQ3 N)

abbrev TSQ19 : Type := Fl -> Fl -> Fl -> (Int -> Bool -> List Int -> Bool) -> Bool

def GQ19 (N : Nat) (SQ137 : TSQ137) (v_0 v_1 v_2 : Fl) (k0 : Int -> Bool -> List Int -> Bool) : Bool :=
  (SQ137 [v_0, v_1, v_2] [v_0, v_1, v_2] (fun nr cr nsr => (k0 nr cr nsr)))

def sQ19 (N : Nat) : TSQ19 := GQ19 N (sQ137 N)

abbrev TSQ16 : Type := Int -> Int -> Bool -> List Int -> Bool -> List Int -> (Int -> Bool) -> Bool

def GQ16 (N : Nat) (SQ21 : TSQ21) (SQ3 : TSQ3) (SQ55 : TSQ55) (x y : Int) (b : Bool) (b_1 : List Int) (b_2 : Bool) (b_3 : List Int) (k0 : Int -> Bool) : Bool :=
  (SQ21 y b_2 b_3 (fun cr nsr => (SQ3 x y b b_1 cr nsr (SQ55 cr nsr (fun nr => (k0 nr))) (SQ55 b b_1 (fun nr_1 => (k0 nr_1))) (fun nr_2 cr_1 nsr_1 => (SQ55 cr_1 nsr_1 (fun nr_3 => (k0 nr_3)))))))

def sQ16 (N : Nat) : TSQ16 := GQ16 N (sQ21 N) (sQ3 N) (sQ55 N)

abbrev TSQ49 : Type := Int -> Int -> Int -> Int -> Int -> Int -> Int -> (Bool -> Bool) -> Bool

def GQ49 (N : Nat) (SQ42 : TSQ42) (SQ40 : TSQ40) (SQ43 : TSQ43) (SQ72 : TSQ72) (SQ46 : TSQ46) (SQ81 : TSQ81) (SQ100 : TSQ100) (SQ99 : TSQ99) (SQ21 : TSQ21) (SQ3 : TSQ3) (SQ19 : TSQ19) (SQ2 : TSQ2) (SQ16 : TSQ16) (x_0 x_1 x_2 x_3 u_0 u_1 u_2 : Int) (k0 : Bool -> Bool) : Bool :=
  (SQ42 (fun cr => (cond (!cr) (k0 false) (SQ40 x_0 x_1 x_2 x_3 (fun xr xr_1 xr_2 xr_3 => (SQ43 u_0 u_1 u_2 (fun xr_4 xr_5 xr_6 => (SQ72 xr xr_1 xr_2 xr_3 (fun cr_1 => (cond ((!cr_1) == false) (SQ46 xr_4 xr_5 xr_6 (fun cr_2 => (cond (!cr_2) (k0 true) (SQ81 xr xr_1 xr_2 xr_3 xr_4 xr_5 xr_6 (fun xr_7 xr_8 xr_9 nr => (cond (nr != 0) (k0 false) (SQ100 1 (fun nr_1 cr_3 nsr => (SQ99 (-44) (fun cr_4 nsr_1 => (SQ21 (-44) cr_4 nsr_1 (fun cr_5 nsr_2 => (SQ3 nr_1 (-44) cr_3 nsr cr_5 nsr_2 (SQ100 1 (fun nr_3 cr_7 nsr_4 => (SQ99 (-44) (fun cr_8 nsr_5 => (SQ3 nr_3 (-44) cr_7 nsr_4 cr_8 nsr_5 (SQ19 xr_4 xr_5 xr_6 (fun nr_9 cr_16 nsr_13 => (SQ19 xr_7 xr_8 xr_9 (fun nr_10 cr_17 nsr_14 => (SQ2 nr_9 (-44) cr_16 nsr_13 cr_5 nsr_2 (fun nr_27 cr_34 nsr_31 => (SQ2 nr_27 (-44) cr_34 nsr_31 cr_5 nsr_2 (fun nr_28 cr_35 nsr_32 => (SQ16 nr_28 nr_10 cr_35 nsr_32 cr_17 nsr_14 (fun nr_29 => (cond ((decide (nr_29 <= 0)) == true) (SQ2 nr_9 (-44) cr_16 nsr_13 cr_8 nsr_5 (fun nr_30 cr_36 nsr_33 => (SQ2 nr_30 (-44) cr_36 nsr_33 cr_8 nsr_5 (fun nr_31 cr_37 nsr_34 => (SQ16 nr_10 nr_31 cr_17 nsr_14 cr_37 nsr_34 (fun nr_32 => (k0 (decide (nr_32 <= 0))))))))) (k0 false)))))))))))) (SQ19 xr_4 xr_5 xr_6 (fun nr_11 cr_18 nsr_15 => (SQ19 xr_7 xr_8 xr_9 (fun nr_12 cr_19 nsr_16 => (SQ2 nr_11 (-44) cr_18 nsr_15 cr_5 nsr_2 (fun nr_33 cr_38 nsr_35 => (SQ2 nr_33 (-44) cr_38 nsr_35 cr_5 nsr_2 (fun nr_34 cr_39 nsr_36 => (SQ16 nr_34 nr_12 cr_39 nsr_36 cr_19 nsr_16 (fun nr_35 => (cond ((decide (nr_35 <= 0)) == true) (SQ2 nr_11 nr_3 cr_18 nsr_15 cr_7 nsr_4 (fun nr_36 cr_40 nsr_37 => (SQ2 nr_36 nr_3 cr_40 nsr_37 cr_7 nsr_4 (fun nr_37 cr_41 nsr_38 => (SQ16 nr_12 nr_37 cr_19 nsr_16 cr_41 nsr_38 (fun nr_38 => (k0 (decide (nr_38 <= 0))))))))) (k0 false)))))))))))) (fun nr_4 cr_9 nsr_6 => (SQ19 xr_4 xr_5 xr_6 (fun nr_13 cr_20 nsr_17 => (SQ19 xr_7 xr_8 xr_9 (fun nr_14 cr_21 nsr_18 => (SQ2 nr_13 (-44) cr_20 nsr_17 cr_5 nsr_2 (fun nr_39 cr_42 nsr_39 => (SQ2 nr_39 (-44) cr_42 nsr_39 cr_5 nsr_2 (fun nr_40 cr_43 nsr_40 => (SQ16 nr_40 nr_14 cr_43 nsr_40 cr_21 nsr_18 (fun nr_41 => (cond ((decide (nr_41 <= 0)) == true) (SQ2 nr_13 nr_4 cr_20 nsr_17 cr_9 nsr_6 (fun nr_42 cr_44 nsr_41 => (SQ2 nr_42 nr_4 cr_44 nsr_41 cr_9 nsr_6 (fun nr_43 cr_45 nsr_42 => (SQ16 nr_14 nr_43 cr_21 nsr_18 cr_45 nsr_42 (fun nr_44 => (k0 (decide (nr_44 <= 0))))))))) (k0 false)))))))))))))))))) (SQ100 1 (fun nr_5 cr_10 nsr_7 => (SQ99 (-44) (fun cr_11 nsr_8 => (SQ3 nr_5 (-44) cr_10 nsr_7 cr_11 nsr_8 (SQ19 xr_4 xr_5 xr_6 (fun nr_15 cr_22 nsr_19 => (SQ19 xr_7 xr_8 xr_9 (fun nr_16 cr_23 nsr_20 => (SQ2 nr_15 nr_1 cr_22 nsr_19 cr_3 nsr (fun nr_45 cr_46 nsr_43 => (SQ2 nr_45 nr_1 cr_46 nsr_43 cr_3 nsr (fun nr_46 cr_47 nsr_44 => (SQ16 nr_46 nr_16 cr_47 nsr_44 cr_23 nsr_20 (fun nr_47 => (cond ((decide (nr_47 <= 0)) == true) (SQ2 nr_15 (-44) cr_22 nsr_19 cr_11 nsr_8 (fun nr_48 cr_48 nsr_45 => (SQ2 nr_48 (-44) cr_48 nsr_45 cr_11 nsr_8 (fun nr_49 cr_49 nsr_46 => (SQ16 nr_16 nr_49 cr_23 nsr_20 cr_49 nsr_46 (fun nr_50 => (k0 (decide (nr_50 <= 0))))))))) (k0 false)))))))))))) (SQ19 xr_4 xr_5 xr_6 (fun nr_17 cr_24 nsr_21 => (SQ19 xr_7 xr_8 xr_9 (fun nr_18 cr_25 nsr_22 => (SQ2 nr_17 nr_1 cr_24 nsr_21 cr_3 nsr (fun nr_51 cr_50 nsr_47 => (SQ2 nr_51 nr_1 cr_50 nsr_47 cr_3 nsr (fun nr_52 cr_51 nsr_48 => (SQ16 nr_52 nr_18 cr_51 nsr_48 cr_25 nsr_22 (fun nr_53 => (cond ((decide (nr_53 <= 0)) == true) (SQ2 nr_17 nr_5 cr_24 nsr_21 cr_10 nsr_7 (fun nr_54 cr_52 nsr_49 => (SQ2 nr_54 nr_5 cr_52 nsr_49 cr_10 nsr_7 (fun nr_55 cr_53 nsr_50 => (SQ16 nr_18 nr_55 cr_25 nsr_22 cr_53 nsr_50 (fun nr_56 => (k0 (decide (nr_56 <= 0))))))))) (k0 false)))))))))))) (fun nr_6 cr_12 nsr_9 => (SQ19 xr_4 xr_5 xr_6 (fun nr_19 cr_26 nsr_23 => (SQ19 xr_7 xr_8 xr_9 (fun nr_20 cr_27 nsr_24 => (SQ2 nr_19 nr_1 cr_26 nsr_23 cr_3 nsr (fun nr_57 cr_54 nsr_51 => (SQ2 nr_57 nr_1 cr_54 nsr_51 cr_3 nsr (fun nr_58 cr_55 nsr_52 => (SQ16 nr_58 nr_20 cr_55 nsr_52 cr_27 nsr_24 (fun nr_59 => (cond ((decide (nr_59 <= 0)) == true) (SQ2 nr_19 nr_6 cr_26 nsr_23 cr_12 nsr_9 (fun nr_60 cr_56 nsr_53 => (SQ2 nr_60 nr_6 cr_56 nsr_53 cr_12 nsr_9 (fun nr_61 cr_57 nsr_54 => (SQ16 nr_20 nr_61 cr_27 nsr_24 cr_57 nsr_54 (fun nr_62 => (k0 (decide (nr_62 <= 0))))))))) (k0 false)))))))))))))))))) (fun nr_2 cr_6 nsr_3 => (SQ100 1 (fun nr_7 cr_13 nsr_10 => (SQ99 (-44) (fun cr_14 nsr_11 => (SQ3 nr_7 (-44) cr_13 nsr_10 cr_14 nsr_11 (SQ19 xr_4 xr_5 xr_6 (fun nr_21 cr_28 nsr_25 => (SQ19 xr_7 xr_8 xr_9 (fun nr_22 cr_29 nsr_26 => (SQ2 nr_21 nr_2 cr_28 nsr_25 cr_6 nsr_3 (fun nr_63 cr_58 nsr_55 => (SQ2 nr_63 nr_2 cr_58 nsr_55 cr_6 nsr_3 (fun nr_64 cr_59 nsr_56 => (SQ16 nr_64 nr_22 cr_59 nsr_56 cr_29 nsr_26 (fun nr_65 => (cond ((decide (nr_65 <= 0)) == true) (SQ2 nr_21 (-44) cr_28 nsr_25 cr_14 nsr_11 (fun nr_66 cr_60 nsr_57 => (SQ2 nr_66 (-44) cr_60 nsr_57 cr_14 nsr_11 (fun nr_67 cr_61 nsr_58 => (SQ16 nr_22 nr_67 cr_29 nsr_26 cr_61 nsr_58 (fun nr_68 => (k0 (decide (nr_68 <= 0))))))))) (k0 false)))))))))))) (SQ19 xr_4 xr_5 xr_6 (fun nr_23 cr_30 nsr_27 => (SQ19 xr_7 xr_8 xr_9 (fun nr_24 cr_31 nsr_28 => (SQ2 nr_23 nr_2 cr_30 nsr_27 cr_6 nsr_3 (fun nr_69 cr_62 nsr_59 => (SQ2 nr_69 nr_2 cr_62 nsr_59 cr_6 nsr_3 (fun nr_70 cr_63 nsr_60 => (SQ16 nr_70 nr_24 cr_63 nsr_60 cr_31 nsr_28 (fun nr_71 => (cond ((decide (nr_71 <= 0)) == true) (SQ2 nr_23 nr_7 cr_30 nsr_27 cr_13 nsr_10 (fun nr_72 cr_64 nsr_61 => (SQ2 nr_72 nr_7 cr_64 nsr_61 cr_13 nsr_10 (fun nr_73 cr_65 nsr_62 => (SQ16 nr_24 nr_73 cr_31 nsr_28 cr_65 nsr_62 (fun nr_74 => (k0 (decide (nr_74 <= 0))))))))) (k0 false)))))))))))) (fun nr_8 cr_15 nsr_12 => (SQ19 xr_4 xr_5 xr_6 (fun nr_25 cr_32 nsr_29 => (SQ19 xr_7 xr_8 xr_9 (fun nr_26 cr_33 nsr_30 => (SQ2 nr_25 nr_2 cr_32 nsr_29 cr_6 nsr_3 (fun nr_75 cr_66 nsr_63 => (SQ2 nr_75 nr_2 cr_66 nsr_63 cr_6 nsr_3 (fun nr_76 cr_67 nsr_64 => (SQ16 nr_76 nr_26 cr_67 nsr_64 cr_33 nsr_30 (fun nr_77 => (cond ((decide (nr_77 <= 0)) == true) (SQ2 nr_25 nr_8 cr_32 nsr_29 cr_15 nsr_12 (fun nr_78 cr_68 nsr_65 => (SQ2 nr_78 nr_8 cr_68 nsr_65 cr_15 nsr_12 (fun nr_79 cr_69 nsr_66 => (SQ16 nr_26 nr_79 cr_33 nsr_30 cr_69 nsr_66 (fun nr_80 => (k0 (decide (nr_80 <= 0))))))))) (k0 false)))))))))))))))))))))))))))))))) (k0 true)))))))))))

def sQ49 (N : Nat) : TSQ49 := GQ49 N (sQ42 N) (sQ40 N) (sQ43 N) (sQ72 N) (sQ46 N) (sQ81 N) (sQ100 N) (sQ99 N) (sQ21 N) (sQ3 N) (sQ19 N) (sQ2 N) (sQ16 N)

end Go.Proofs.YtnfgnjciliapaaaGreatDoor
