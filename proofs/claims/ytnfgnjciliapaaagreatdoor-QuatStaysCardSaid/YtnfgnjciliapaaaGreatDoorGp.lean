/-
  THE PROGRAM's FUNCTIONS, as their meanings (written by program).
  Conditions: none.
-/
import Derived.Test.YtnfgnjciliapaaaGreatDoorMachP
namespace Go.Proofs.YtnfgnjciliapaaaGreatDoor
open Go Go.Mach
set_option linter.unusedVariables false

def strTab_11c1601c : List Int := [0, 1, 2, 2, 3, 3, 3, 3, 4, 4, 4, 4, 4, 4, 4, 4, 5, 5, 5, 5, 5, 5, 5, 5, 5, 5, 5, 5, 5, 5, 5, 5, 6, 6, 6, 6, 6, 6, 6, 6, 6, 6, 6, 6, 6, 6, 6, 6, 6, 6, 6, 6, 6, 6, 6, 6, 6, 6, 6, 6, 6, 6, 6, 6, 7, 7, 7, 7, 7, 7, 7, 7, 7, 7, 7, 7, 7, 7, 7, 7, 7, 7, 7, 7, 7, 7, 7, 7, 7, 7, 7, 7, 7, 7, 7, 7, 7, 7, 7, 7, 7, 7, 7, 7, 7, 7, 7, 7, 7, 7, 7, 7, 7, 7, 7, 7, 7, 7, 7, 7, 7, 7, 7, 7, 7, 7, 7, 7, 8, 8, 8, 8, 8, 8, 8, 8, 8, 8, 8, 8, 8, 8, 8, 8, 8, 8, 8, 8, 8, 8, 8, 8, 8, 8, 8, 8, 8, 8, 8, 8, 8, 8, 8, 8, 8, 8, 8, 8, 8, 8, 8, 8, 8, 8, 8, 8, 8, 8, 8, 8, 8, 8, 8, 8, 8, 8, 8, 8, 8, 8, 8, 8, 8, 8, 8, 8, 8, 8, 8, 8, 8, 8, 8, 8, 8, 8, 8, 8, 8, 8, 8, 8, 8, 8, 8, 8, 8, 8, 8, 8, 8, 8, 8, 8, 8, 8, 8, 8, 8, 8, 8, 8, 8, 8, 8, 8, 8, 8, 8, 8, 8, 8, 8, 8, 8, 8, 8, 8, 8, 8, 8, 8, 8, 8, 8, 8]

abbrev TSQ147 : Type := Nat -> (Int -> Bool) -> Bool

def sQ147 (N : Nat) : TSQ147 := fun n k => k n

abbrev TS_an_of : Type := (Int -> Int -> Int -> Bool) -> Bool

def G_an_of (N : Nat) (k0 : Int -> Int -> Int -> Bool) : Bool :=
  (k0 52 2047 1075)

def s_an_of (N : Nat) : TS_an_of := G_an_of N

abbrev TSQ150 : Type := Int -> Int -> Int -> (Int -> Bool) -> Bool

def GQ150 (N : Nat) (f_0 f_1 f_2 : Int) (k0 : Int -> Bool) : Bool :=
  ((fits .i64 (f_1 + 1)) && ((decide (0 <= f_0)) && (k0 (IntKind.wrap .u64 ((IntKind.wrap .u64 (f_1 + 1)) * 2 ^ (min (Int.toNat f_0) 64))))))

def sQ150 (N : Nat) : TSQ150 := GQ150 N

abbrev TSQ89 : Type := Int -> Int -> Int -> (Int -> Bool) -> Bool

def GQ89 (N : Nat) (f_0 f_1 f_2 : Int) (k0 : Int -> Bool) : Bool :=
  ((decide (0 <= f_0)) && (k0 (IntKind.wrap .u64 ((IntKind.wrap .u64 f_1) * 2 ^ (min (Int.toNat f_0) 64)))))

def sQ89 (N : Nat) : TSQ89 := GQ89 N

abbrev TSQ88 : Type := Int -> Int -> Int -> Int -> (Bool -> Bool) -> Bool

def GQ88 (N : Nat) (SQ150 : TSQ150) (SQ89 : TSQ89) (b f_0 f_1 f_2 : Int) (k0 : Bool -> Bool) : Bool :=
  (SQ150 f_0 f_1 f_2 (fun nr => (SQ89 f_0 f_1 f_2 (fun nr_1 => (k0 (decide ((bitsN .andNot .u64 b nr) > nr_1)))))))

def sQ88 (N : Nat) : TSQ88 := GQ88 N (sQ150 N) (sQ89 N)

abbrev TSQ74 : Type := Int -> Int -> Int -> (Int -> Bool) -> Bool

def GQ74 (N : Nat) (f_0 f_1 f_2 : Int) (k0 : Int -> Bool) : Bool :=
  ((decide (0 <= f_0)) && (k0 (IntKind.wrap .u64 ((1 : Int) * 2 ^ (min (Int.toNat f_0) 64)))))

def sQ74 (N : Nat) : TSQ74 := GQ74 N

abbrev TSQ171 : Type := Int -> Int -> Int -> (Int -> Bool) -> Bool

def GQ171 (N : Nat) (SQ89 : TSQ89) (SQ74 : TSQ74) (f_0 f_1 f_2 : Int) (k0 : Int -> Bool) : Bool :=
  (SQ89 f_0 f_1 f_2 (fun nr => (SQ74 f_0 f_1 f_2 (fun nr_1 => (k0 (bitsN .or .u64 (bitsN .or .u64 nr (Int.fdiv nr_1 (2 ^ 1))) (IntKind.wrap .u64 (Int.tdiv f_0 52))))))))

def sQ171 (N : Nat) : TSQ171 := GQ171 N (sQ89 N) (sQ74 N)

abbrev TSQ78 : Type := Int -> Int -> Int -> Int -> (Int -> Bool) -> Bool

def GQ78 (N : Nat) (SQ88 : TSQ88) (SQ171 : TSQ171) (b f_0 f_1 f_2 : Int) (k0 : Int -> Bool) : Bool :=
  (SQ88 b f_0 f_1 f_2 (fun cr => (cond cr (SQ171 f_0 f_1 f_2 (fun nr => (k0 nr))) (k0 b))))

def sQ78 (N : Nat) : TSQ78 := GQ78 N (sQ88 N) (sQ171 N)

abbrev TSQ32 : Type := Int -> Int -> Int -> Int -> (Bool -> Int -> Int -> Bool) -> Bool

def GQ32 (N : Nat) (SQ78 : TSQ78) (SQ150 : TSQ150) (SQ74 : TSQ74) (b f_0 f_1 f_2 : Int) (k0 : Bool -> Int -> Int -> Bool) : Bool :=
  (SQ78 b f_0 f_1 f_2 (fun nr => (SQ150 f_0 f_1 f_2 (fun nr_1 => ((decide (0 <= f_0)) && ((fits .i64 (bitsN .and .u64 (Int.fdiv nr (2 ^ (min (Int.toNat f_0) 64))) (IntKind.wrap .u64 f_1))) && (SQ74 f_0 f_1 f_2 (fun nr_2 => (k0 ((bitsN .and .u64 nr nr_1) != 0) (bitsN .and .u64 (Int.fdiv nr (2 ^ (min (Int.toNat f_0) 64))) (IntKind.wrap .u64 f_1)) (bitsN .and .u64 nr (IntKind.wrap .u64 (nr_2 - 1))))))))))))

def sQ32 (N : Nat) : TSQ32 := GQ32 N (sQ78 N) (sQ150 N) (sQ74 N)

abbrev TSQ31 : Type := Int -> Int -> Int -> Int -> (Int -> Bool) -> Bool

def GQ31 (N : Nat) (SQ32 : TSQ32) (b f_0 f_1 f_2 : Int) (k0 : Int -> Bool) : Bool :=
  (SQ32 b f_0 f_1 f_2 (fun cr nr nr_1 => (cond ((nr == f_1) == true) (cond (nr_1 != 0) (k0 1) (cond (nr == f_1) (k0 2) (cond ((nr == 0) == true) (cond (nr_1 == 0) (k0 3) (cond (nr == 0) (k0 4) (k0 5))) (cond (nr == 0) (k0 4) (k0 5))))) (cond (nr == f_1) (k0 2) (cond ((nr == 0) == true) (cond (nr_1 == 0) (k0 3) (cond (nr == 0) (k0 4) (k0 5))) (cond (nr == 0) (k0 4) (k0 5)))))))

def sQ31 (N : Nat) : TSQ31 := GQ31 N (sQ32 N)

abbrev TSQ163 : Type := Nat -> (Int -> Bool) -> Bool

def GQ163 (N : Nat) (SQ147 : TSQ147) (S_an_of : TS_an_of) (SQ31 : TSQ31) (x : Nat) (k0 : Int -> Bool) : Bool :=
  (SQ147 x (fun nr => (S_an_of (fun nr_1 nr_2 nr_3 => (SQ31 nr nr_1 nr_2 nr_3 (fun nr_4 => (k0 nr_4)))))))

def sQ163 (N : Nat) : TSQ163 := GQ163 N (sQ147 N) (s_an_of N) (sQ31 N)

abbrev TSQ82 : Type := Int -> (Fl -> Bool) -> Bool

def sQ82 (N : Nat) : TSQ82 := fun n k => k (canon n.toNat)

abbrev TSQ177 : Type := Nat -> (Fl -> Bool) -> Bool

def GQ177 (N : Nat) (SQ147 : TSQ147) (SQ82 : TSQ82) (x : Nat) (k0 : Fl -> Bool) : Bool :=
  (SQ147 x (fun nr => (SQ82 (bitsN .andNot .u64 nr 9223372036854775808) (fun xr => (k0 xr)))))

def sQ177 (N : Nat) : TSQ177 := GQ177 N (sQ147 N) (sQ82 N)

abbrev TSQ12 : Type := List Fl -> (Bool -> Bool) -> Bool

def st_quat_finite_0 (N : Nat) (l_1 : List Fl) (t5 : Int) (e0 : Bool -> Bool) (e1 : Bool) : (Int) -> ((Int) -> Bool) -> Bool := fun v_ K => match v_ with
  | t6 => (cond (decide (t6 < t5)) ((inR t6 (List.length l_1)) && ((inR t6 (List.length l_1)) && (cond (!feq (fsub (List.getD l_1 (Int.toNat t6) none) (List.getD l_1 (Int.toNat t6) none)) (some 0)) (e0 false) ((fits .i64 (t6 + 1)) && (K (t6 + 1)))))) e1)

def GQ12 (N : Nat) (l : List Fl) (k0 : Bool -> Bool) : Bool :=
  (iterG N (st_quat_finite_0 N l (((List.length l) : Nat) : Int) (fun t2 => (k0 t2)) (k0 true)) 0)

def sQ12 (N : Nat) : TSQ12 := GQ12 N

abbrev TSQ17 : Type := Fl -> Fl -> Fl -> Fl -> (Bool -> Bool) -> Bool

def GQ17 (N : Nat) (SQ12 : TSQ12) (qs_0 qs_1 qs_2 qs_3 : Fl) (k0 : Bool -> Bool) : Bool :=
  (SQ12 [qs_0, qs_1, qs_2, qs_3] (fun cr => (cond (!cr) (k0 false) (k0 true))))

def sQ17 (N : Nat) : TSQ17 := GQ17 (N + 24) (sQ12 N)

abbrev TSQ26 : Type := Fl -> Fl -> Fl -> Fl -> (Bool) -> Bool

def GQ26 (N : Nat) (q_0 q_1 q_2 q_3 : Fl) (k0 : Bool) : Bool :=
  k0

def sQ26 (N : Nat) : TSQ26 := GQ26 N

abbrev TS_m_Abs : Type := Fl -> (Fl -> Bool) -> Bool

def s_m_Abs (N : Nat) : TS_m_Abs := fun x k => k (absF x)

abbrev TSQ121 : Type := Fl -> Int -> (Bool -> Bool) -> Bool

def GQ121 (N : Nat) (S_m_Abs : TS_m_Abs) (f : Fl) (sign : Int) (k0 : Bool -> Bool) : Bool :=
  (cond (sign == 0) (S_m_Abs f (fun xr => (k0 (fgt xr (some 9218868437227405311))))) (cond (decide (sign < 0)) (k0 (fgt (fneg f) (some 9218868437227405311))) (k0 (fgt f (some 9218868437227405311)))))

def sQ121 (N : Nat) : TSQ121 := GQ121 N (s_m_Abs N)

abbrev TSQ126 : Type := Fl -> (Bool -> Bool) -> Bool

def GQ126 (N : Nat) (f : Fl) (k0 : Bool -> Bool) : Bool :=
  (k0 (!feq f f))

def sQ126 (N : Nat) : TSQ126 := GQ126 N

abbrev TSQ66 : Type := Fl -> (Fl -> Int -> Bool) -> Bool

def GQ66 (N : Nat) (S_m_Abs : TS_m_Abs) (x : Fl) (k0 : Fl -> Int -> Bool) : Bool :=
  (S_m_Abs x (fun xr => (cond (flt xr (some 4503599627370496)) (k0 (fmul x (some 4841369599423283200)) (-52)) (k0 x 0))))

def sQ66 (N : Nat) : TSQ66 := GQ66 N (s_m_Abs N)

abbrev TSQ114 : Type := Fl -> (Int -> Bool) -> Bool

def sQ114 (N : Nat) : TSQ114 := fun x k => match x with | some b => k b | none => false

abbrev TSQ174 : Type := Fl -> (Fl -> Int -> Bool) -> Bool

def GQ174 (N : Nat) (SQ121 : TSQ121) (SQ126 : TSQ126) (SQ66 : TSQ66) (SQ114 : TSQ114) (SQ82 : TSQ82) (f : Fl) (k0 : Fl -> Int -> Bool) : Bool :=
  (cond (feq f (some 0)) (k0 f 0) (SQ121 f 0 (fun cr => (cond (cr == false) (SQ126 f (fun cr_1 => (cond cr_1 (k0 f 0) (SQ66 f (fun xr nr => (SQ114 xr (fun nr_1 => ((fits .i64 (bitsN .and .u64 (Int.fdiv nr_1 (2 ^ 52)) 2047)) && ((fits .i64 ((bitsN .and .u64 (Int.fdiv nr_1 (2 ^ 52)) 2047) - 1023)) && ((fits .i64 (((bitsN .and .u64 (Int.fdiv nr_1 (2 ^ 52)) 2047) - 1023) + 1)) && ((fits .i64 (nr + (((bitsN .and .u64 (Int.fdiv nr_1 (2 ^ 52)) 2047) - 1023) + 1))) && (SQ82 (bitsN .or .u64 (bitsN .andNot .u64 nr_1 9218868437227405312) 4602678819172646912) (fun xr_1 => (k0 xr_1 (nr + (((bitsN .and .u64 (Int.fdiv nr_1 (2 ^ 52)) 2047) - 1023) + 1)))))))))))))))) (k0 f 0)))))

def sQ174 (N : Nat) : TSQ174 := GQ174 N (sQ121 N) (sQ126 N) (sQ66 N) (sQ114 N) (sQ82 N)

abbrev TSQ120 : Type := Fl -> (Fl -> Int -> Bool) -> Bool

def GQ120 (N : Nat) (SQ174 : TSQ174) (f : Fl) (k0 : Fl -> Int -> Bool) : Bool :=
  (SQ174 f (fun xr nr => (k0 xr nr)))

def sQ120 (N : Nat) : TSQ120 := GQ120 N (sQ174 N)

abbrev TSQ100 : Type := Fl -> Fl -> (Fl -> Bool) -> Bool

def GQ100 (N : Nat) (SQ114 : TSQ114) (SQ82 : TSQ82) (f sign : Fl) (k0 : Fl -> Bool) : Bool :=
  (SQ114 f (fun nr => (SQ114 sign (fun nr_1 => (SQ82 (bitsN .or .u64 (bitsN .andNot .u64 nr 9223372036854775808) (bitsN .and .u64 nr_1 9223372036854775808)) (fun xr => (k0 xr)))))))

def sQ100 (N : Nat) : TSQ100 := GQ100 N (sQ114 N) (sQ82 N)

abbrev TS_m_Inf : Type := Int -> (Fl -> Bool) -> Bool

def J_m_Inf_0 (N : Nat) (SQ82 : TSQ82) (sign v : Int) (k0 : Fl -> Bool) : Bool :=
  (SQ82 v (fun xr => (k0 xr)))

def G_m_Inf (N : Nat) (SQ82 : TSQ82) (sign : Int) (k0 : Fl -> Bool) : Bool :=
  (cond (decide (sign >= 0)) (J_m_Inf_0 N SQ82 sign 9218868437227405312 k0) (J_m_Inf_0 N SQ82 sign 18442240474082181120 k0))

def s_m_Inf (N : Nat) : TS_m_Inf := G_m_Inf N (sQ82 N)

abbrev TSQ165 : Type := Fl -> Int -> (Fl -> Bool) -> Bool

def JQ196 (N : Nat) (SQ121 : TSQ121) (SQ126 : TSQ126) (SQ66 : TSQ66) (SQ114 : TSQ114) (SQ100 : TSQ100) (S_m_Inf : TS_m_Inf) (SQ82 : TSQ82) (frac : Fl) (exp exp_1 x : Int) (m : Fl) (k0 : Fl -> Bool) : Bool :=
  ((fits .i64 (exp_1 + 1023)) && (SQ82 (bitsN .or .u64 (bitsN .andNot .u64 x 9218868437227405312) (IntKind.wrap .u64 ((IntKind.wrap .u64 (exp_1 + 1023)) * 2 ^ 52))) (fun xr_4 => (k0 (fmul m xr_4)))))

def GQ165 (N : Nat) (SQ121 : TSQ121) (SQ126 : TSQ126) (SQ66 : TSQ66) (SQ114 : TSQ114) (SQ100 : TSQ100) (S_m_Inf : TS_m_Inf) (SQ82 : TSQ82) (frac : Fl) (exp : Int) (k0 : Fl -> Bool) : Bool :=
  (cond (feq frac (some 0)) (k0 frac) (SQ121 frac 0 (fun cr => (cond (cr == false) (SQ126 frac (fun cr_1 => (cond cr_1 (k0 frac) (SQ66 frac (fun xr nr => ((fits .i64 (exp + nr)) && (SQ114 xr (fun nr_1 => ((fits .i64 (Int.fdiv nr_1 (2 ^ 52))) && ((fits .i64 ((bitsN .and .i64 (Int.fdiv nr_1 (2 ^ 52)) 2047) - 1023)) && ((fits .i64 ((exp + nr) + ((bitsN .and .i64 (Int.fdiv nr_1 (2 ^ 52)) 2047) - 1023))) && (cond (decide (((exp + nr) + ((bitsN .and .i64 (Int.fdiv nr_1 (2 ^ 52)) 2047) - 1023)) < (-1075))) (SQ100 (some 0) xr (fun xr_1 => (k0 xr_1))) (cond (decide (((exp + nr) + ((bitsN .and .i64 (Int.fdiv nr_1 (2 ^ 52)) 2047) - 1023)) > 1023)) (cond (flt xr (some 0)) (S_m_Inf (-1) (fun xr_2 => (k0 xr_2))) (S_m_Inf 1 (fun xr_3 => (k0 xr_3)))) (cond (decide (((exp + nr) + ((bitsN .and .i64 (Int.fdiv nr_1 (2 ^ 52)) 2047) - 1023)) < (-1022))) ((fits .i64 (((exp + nr) + ((bitsN .and .i64 (Int.fdiv nr_1 (2 ^ 52)) 2047) - 1023)) + 53)) && (JQ196 N SQ121 SQ126 SQ66 SQ114 SQ100 S_m_Inf SQ82 frac exp (((exp + nr) + ((bitsN .and .i64 (Int.fdiv nr_1 (2 ^ 52)) 2047) - 1023)) + 53) nr_1 (some 4368491638549381120) k0)) (JQ196 N SQ121 SQ126 SQ66 SQ114 SQ100 S_m_Inf SQ82 frac exp ((exp + nr) + ((bitsN .and .i64 (Int.fdiv nr_1 (2 ^ 52)) 2047) - 1023)) nr_1 (some 4607182418800017408) k0))))))))))))))) (k0 frac)))))

def sQ165 (N : Nat) : TSQ165 := GQ165 N (sQ121 N) (sQ126 N) (sQ66 N) (sQ114 N) (sQ100 N) (s_m_Inf N) (sQ82 N)

abbrev TSQ101 : Type := Fl -> Int -> (Fl -> Bool) -> Bool

def GQ101 (N : Nat) (SQ165 : TSQ165) (frac : Fl) (exp : Int) (k0 : Fl -> Bool) : Bool :=
  (SQ165 frac exp (fun xr => (k0 xr)))

def sQ101 (N : Nat) : TSQ101 := GQ101 N (sQ165 N)

abbrev TSQ184 : Type := Fl -> (Fl -> Bool) -> Bool

def sQ184 (N : Nat) : TSQ184 := fun x k => k (fsqrt x)

abbrev TSQ149 : Type := Fl -> (Fl -> Bool) -> Bool

def GQ149 (N : Nat) (SQ184 : TSQ184) (x : Fl) (k0 : Fl -> Bool) : Bool :=
  (SQ184 x (fun xr => (k0 xr)))

def sQ149 (N : Nat) : TSQ149 := GQ149 N (sQ184 N)

abbrev TSQ108 : Type := Fl -> Fl -> Fl -> Fl -> (Bool) -> Bool

def GQ108 (N : Nat) (l_0 l_1 l_2 l_3 : Fl) (k0 : Bool) : Bool :=
  k0

def sQ108 (N : Nat) : TSQ108 := GQ108 N

abbrev TSQ13 : Type := Fl -> Fl -> Fl -> Fl -> (Fl -> Fl -> Fl -> Fl -> Int -> Bool) -> Bool

def GQ13 (N : Nat) (SQ17 : TSQ17) (SQ26 : TSQ26) (S_m_Abs : TS_m_Abs) (SQ120 : TSQ120) (SQ101 : TSQ101) (SQ149 : TSQ149) (SQ108 : TSQ108) (q_0 q_1 q_2 q_3 : Fl) (k0 : Fl -> Fl -> Fl -> Fl -> Int -> Bool) : Bool :=
  (SQ17 q_0 q_1 q_2 q_3 (fun cr => (cond (!cr) (k0 (some 0) (some 0) (some 0) (some 0) 4) (SQ26 q_0 q_1 q_2 q_3 (S_m_Abs q_0 (fun xr => (S_m_Abs q_1 (fun xr_1 => (S_m_Abs q_2 (fun xr_2 => (S_m_Abs q_3 (fun xr_3 => (cond (feq (fmm true (fmm true (fmm true (fmm true (some 0) xr) xr_1) xr_2) xr_3) (some 0)) (k0 (some 0) (some 0) (some 0) (some 0) 120) (SQ120 (fmm true (fmm true (fmm true (fmm true (some 0) xr) xr_1) xr_2) xr_3) (fun xr_4 nr => ((fits .i64 (1 - nr)) && (SQ101 q_0 (1 - nr) (fun xr_5 => ((fits .i64 (1 - nr)) && (SQ101 q_1 (1 - nr) (fun xr_6 => ((fits .i64 (1 - nr)) && (SQ101 q_2 (1 - nr) (fun xr_7 => ((fits .i64 (1 - nr)) && (SQ101 q_3 (1 - nr) (fun xr_8 => (SQ149 (fadd (fadd (fadd (fadd (some 0) (fmul xr_5 xr_5)) (fmul xr_6 xr_6)) (fmul xr_7 xr_7)) (fmul xr_8 xr_8)) (fun xr_9 => (SQ108 (fdiv xr_5 xr_9) (fdiv xr_6 xr_9) (fdiv xr_7 xr_9) (fdiv xr_8 xr_9) (k0 (fdiv xr_5 xr_9) (fdiv xr_6 xr_9) (fdiv xr_7 xr_9) (fdiv xr_8 xr_9) 0)))))))))))))))))))))))))))))))

def sQ13 (N : Nat) : TSQ13 := GQ13 (N + 24) (sQ17 N) (sQ26 N) (s_m_Abs N) (sQ120 N) (sQ101 N) (sQ149 N) (sQ108 N)

abbrev TSQ60 : Type := Fl -> Fl -> Fl -> Fl -> Fl -> Fl -> (Fl -> Fl -> Fl -> Bool) -> Bool

def GQ60 (N : Nat) (a_0 a_1 a_2 b_0 b_1 b_2 : Fl) (k0 : Fl -> Fl -> Fl -> Bool) : Bool :=
  (k0 (fsub (fmul a_1 b_2) (fmul a_2 b_1)) (fsub (fmul a_2 b_0) (fmul a_0 b_2)) (fsub (fmul a_0 b_1) (fmul a_1 b_0)))

def sQ60 (N : Nat) : TSQ60 := GQ60 N

abbrev TSQ155 : Type := Fl -> Fl -> Fl -> (Fl -> Fl -> Fl -> Int -> Bool) -> Bool

def GQ155 (N : Nat) (SQ12 : TSQ12) (v_0 v_1 v_2 : Fl) (k0 : Fl -> Fl -> Fl -> Int -> Bool) : Bool :=
  (SQ12 [v_0, v_1, v_2] (fun cr => (cond (!cr) (k0 (some 0) (some 0) (some 0) 5) (k0 v_0 v_1 v_2 0))))

def sQ155 (N : Nat) : TSQ155 := GQ155 N (sQ12 N)

abbrev TSQ142 : Type := Fl -> Fl -> Fl -> Fl -> Fl -> Fl -> Fl -> (Fl -> Fl -> Fl -> Int -> Bool) -> Bool

def GQ142 (N : Nat) (SQ17 : TSQ17) (SQ12 : TSQ12) (SQ60 : TSQ60) (SQ155 : TSQ155) (q_0 q_1 q_2 q_3 v_0 v_1 v_2 : Fl) (k0 : Fl -> Fl -> Fl -> Int -> Bool) : Bool :=
  (SQ17 q_0 q_1 q_2 q_3 (fun cr => (cond ((!cr) == false) (SQ12 [v_0, v_1, v_2] (fun cr_1 => (cond (!cr_1) (k0 (some 0) (some 0) (some 0) 4) (SQ60 q_1 q_2 q_3 v_0 v_1 v_2 (fun xr xr_1 xr_2 => (SQ60 q_1 q_2 q_3 (fmul xr (some 4611686018427387904)) (fmul xr_1 (some 4611686018427387904)) (fmul xr_2 (some 4611686018427387904)) (fun xr_3 xr_4 xr_5 => (SQ155 (fadd (fadd v_0 (fmul q_0 (fmul xr (some 4611686018427387904)))) xr_3) (fadd (fadd v_1 (fmul q_0 (fmul xr_1 (some 4611686018427387904)))) xr_4) (fadd (fadd v_2 (fmul q_0 (fmul xr_2 (some 4611686018427387904)))) xr_5) (fun xr_6 xr_7 xr_8 nr => (k0 xr_6 xr_7 xr_8 nr)))))))))) (k0 (some 0) (some 0) (some 0) 4))))

def sQ142 (N : Nat) : TSQ142 := GQ142 (N + 24) (sQ17 N) (sQ12 N) (sQ60 N) (sQ155 N)

abbrev TSQ59 : Type := Fl -> Fl -> Fl -> Fl -> Fl -> Fl -> Fl -> Fl -> (Bool -> Bool) -> Bool

def GQ59 (N : Nat) (SQ12 : TSQ12) (qs_0 qs_1 qs_2 qs_3 qs_4 qs_5 qs_6 qs_7 : Fl) (k0 : Bool -> Bool) : Bool :=
  (SQ12 [qs_0, qs_1, qs_2, qs_3] (fun cr => (cond (!cr) (k0 false) (SQ12 [qs_4, qs_5, qs_6, qs_7] (fun cr_1 => (cond (!cr_1) (k0 false) (k0 true)))))))

def sQ59 (N : Nat) : TSQ59 := GQ59 (N + 24) (sQ12 N)

abbrev TSQ164 : Type := Fl -> Fl -> Fl -> Fl -> Fl -> Fl -> Fl -> Fl -> (Fl -> Fl -> Fl -> Fl -> Bool) -> Bool

def GQ164 (N : Nat) (a_0 a_1 a_2 a_3 b_0 b_1 b_2 b_3 : Fl) (k0 : Fl -> Fl -> Fl -> Fl -> Bool) : Bool :=
  (k0 (fsub (fsub (fsub (fmul a_0 b_0) (fmul a_1 b_1)) (fmul a_2 b_2)) (fmul a_3 b_3)) (fsub (fadd (fadd (fmul a_0 b_1) (fmul a_1 b_0)) (fmul a_2 b_3)) (fmul a_3 b_2)) (fadd (fadd (fsub (fmul a_0 b_2) (fmul a_1 b_3)) (fmul a_2 b_0)) (fmul a_3 b_1)) (fadd (fsub (fadd (fmul a_0 b_3) (fmul a_1 b_2)) (fmul a_2 b_1)) (fmul a_3 b_0)))

def sQ164 (N : Nat) : TSQ164 := GQ164 N

abbrev TSQ72 : Type := Fl -> Fl -> Fl -> Fl -> (Fl -> Fl -> Fl -> Fl -> Int -> Bool) -> Bool

def GQ72 (N : Nat) (SQ17 : TSQ17) (q_0 q_1 q_2 q_3 : Fl) (k0 : Fl -> Fl -> Fl -> Fl -> Int -> Bool) : Bool :=
  (SQ17 q_0 q_1 q_2 q_3 (fun cr => (cond (!cr) (k0 (some 0) (some 0) (some 0) (some 0) 5) (k0 q_0 q_1 q_2 q_3 0))))

def sQ72 (N : Nat) : TSQ72 := GQ72 N (sQ17 N)

abbrev TSQ123 : Type := Fl -> Fl -> Fl -> Fl -> Fl -> Fl -> Fl -> Fl -> (Fl -> Fl -> Fl -> Fl -> Int -> Bool) -> Bool

def GQ123 (N : Nat) (SQ59 : TSQ59) (SQ164 : TSQ164) (SQ72 : TSQ72) (a_0 a_1 a_2 a_3 b_0 b_1 b_2 b_3 : Fl) (k0 : Fl -> Fl -> Fl -> Fl -> Int -> Bool) : Bool :=
  (SQ59 a_0 a_1 a_2 a_3 b_0 b_1 b_2 b_3 (fun cr => (cond (!cr) (k0 (some 0) (some 0) (some 0) (some 0) 4) (SQ164 a_0 a_1 a_2 a_3 b_0 b_1 b_2 b_3 (fun xr xr_1 xr_2 xr_3 => (SQ72 xr xr_1 xr_2 xr_3 (fun xr_4 xr_5 xr_6 xr_7 nr => (k0 xr_4 xr_5 xr_6 xr_7 nr))))))))

def sQ123 (N : Nat) : TSQ123 := GQ123 N (sQ59 N) (sQ164 N) (sQ72 N)

abbrev TSQ138 : Type := Fl -> (Int -> Bool) -> Bool

def sQ138 (N : Nat) : TSQ138 := fun x k => k (clsF x)

abbrev TSQ69 : Type := List Fl -> (Bool -> Bool) -> Bool

def st_an_Finite_0 (N : Nat) (SQ138 : TSQ138) (t6 : List Fl) (t7 : Int) (e0 : Bool -> Bool) (e1 : Bool) : (Int) -> ((Int) -> Bool) -> Bool := fun v_ K => match v_ with
  | t8 => (cond (decide (t8 < t7)) ((inR t8 (List.length t6)) && (SQ138 (List.getD t6 (Int.toNat t8) none) (fun nr => (cond ((nr == 1) == false) (cond (nr == 2) (e0 false) ((fits .i64 (t8 + 1)) && (K (t8 + 1)))) (e0 false))))) e1)

def GQ69 (N : Nat) (SQ138 : TSQ138) (l : List Fl) (k0 : Bool -> Bool) : Bool :=
  (iterG N (st_an_Finite_0 N SQ138 l (((List.length l) : Nat) : Int) (fun t2 => (k0 t2)) (k0 true)) 0)

def sQ69 (N : Nat) : TSQ69 := GQ69 N (sQ138 N)

abbrev TSQ6 : Type := Int -> (Int -> Bool) -> Bool

def GQ6 (N : Nat) (x : Int) (k0 : Int -> Bool) : Bool :=
  (cond (x == 0) (k0 64) ((inR (Int.fdiv (IntKind.wrap .u64 ((bitsN .and .u64 x (IntKind.wrap .u64 (0 - x))) * 285870213051353865)) (2 ^ 58)) 64) && ((fits .i64 (List.getD tab64 (Int.toNat (Int.fdiv (IntKind.wrap .u64 ((bitsN .and .u64 x (IntKind.wrap .u64 (0 - x))) * 285870213051353865)) (2 ^ 58))) 0)) && (k0 (List.getD tab64 (Int.toNat (Int.fdiv (IntKind.wrap .u64 ((bitsN .and .u64 x (IntKind.wrap .u64 (0 - x))) * 285870213051353865)) (2 ^ 58))) 0)))))

def sQ6 (N : Nat) : TSQ6 := GQ6 N

abbrev TSQ67 : Type := Int -> Int -> Int -> Int -> (Bool -> Int -> Int -> Int -> Bool) -> Bool

def JQ175 (N : Nat) (SQ32 : TSQ32) (SQ31 : TSQ31) (SQ74 : TSQ74) (SQ6 : TSQ6) (b f_0 f_1 f_2 : Int) (p : Bool) (p_1 p_2 : Int) (k0 : Bool -> Int -> Int -> Int -> Bool) : Bool :=
  (SQ6 p_1 (fun nr_4 => ((decide (0 <= nr_4)) && ((fits .i64 (p_2 + nr_4)) && (k0 p (Int.fdiv p_1 (2 ^ (min (Int.toNat nr_4) 64))) (p_2 + nr_4) 0)))))

def GQ67 (N : Nat) (SQ32 : TSQ32) (SQ31 : TSQ31) (SQ74 : TSQ74) (SQ6 : TSQ6) (b f_0 f_1 f_2 : Int) (k0 : Bool -> Int -> Int -> Int -> Bool) : Bool :=
  (SQ32 b f_0 f_1 f_2 (fun cr nr nr_1 => ((fits .i64 (nr - f_2)) && (SQ31 b f_0 f_1 f_2 (fun nr_2 => (cond (nr_2 == 1) (k0 false 0 0 4) (cond (nr_2 == 2) (k0 false 0 0 4) (cond (nr_2 == 3) (k0 cr 0 0 0) (cond (nr_2 == 4) ((fits .i64 ((nr - f_2) + 1)) && (JQ175 N SQ32 SQ31 SQ74 SQ6 b f_0 f_1 f_2 cr nr_1 ((nr - f_2) + 1) k0)) (SQ74 f_0 f_1 f_2 (fun nr_3 => (JQ175 N SQ32 SQ31 SQ74 SQ6 b f_0 f_1 f_2 cr (bitsN .or .u64 nr_1 nr_3) (nr - f_2) k0))))))))))))

def sQ67 (N : Nat) : TSQ67 := GQ67 N (sQ32 N) (sQ31 N) (sQ74 N) (sQ6 N)

abbrev TSQ156 : Type := Fl -> (Bool -> Int -> Int -> Int -> Bool) -> Bool

def GQ156 (N : Nat) (SQ114 : TSQ114) (S_an_of : TS_an_of) (SQ67 : TSQ67) (x : Fl) (k0 : Bool -> Int -> Int -> Int -> Bool) : Bool :=
  (SQ114 x (fun nr => (S_an_of (fun nr_1 nr_2 nr_3 => (SQ67 nr nr_1 nr_2 nr_3 (fun cr nr_4 nr_5 nr_6 => (k0 cr nr_4 nr_5 nr_6)))))))

def sQ156 (N : Nat) : TSQ156 := GQ156 N (sQ114 N) (s_an_of N) (sQ67 N)

abbrev TSQ1 : Type := List Int -> (Nat -> Nat -> Bool) -> Bool

def stQ195 (N : Nat) (x : List Int) (e0 : Int -> Bool) : (Int) -> ((Int) -> Bool) -> Bool := fun v_ K => match v_ with
  | n => (cond ((decide (n > 0)) == true) ((fits .i64 (n - 1)) && ((inR (n - 1) (List.length x)) && ((decide ((Int.toNat (n - 1)) < (List.length x))) && (cond ((List.getD x (Int.toNat (n - 1)) 0) == 0) ((fits .i64 (n - 1)) && (K (n - 1))) (e0 n))))) (e0 n))

def GQ1 (N : Nat) (b : List Int) (k0 : Nat -> Nat -> Bool) : Bool :=
  (iterG N (stQ195 N b (fun n_1 => ((decide (0 <= n_1 /\ n_1 <= (((List.length b) : Nat) : Int))) && (k0 0 ((Int.toNat n_1) - 0))))) (((List.length b) : Nat) : Int))

def sQ1 (N : Nat) : TSQ1 := GQ1 N

abbrev TSQ124 : Type := Int -> (List Int -> Bool) -> Bool

def GQ124 (N : Nat) (SQ1 : TSQ1) (n : Int) (k0 : List Int -> Bool) : Bool :=
  (SQ1 [n] (fun mr mr_1 => ((decide ((mr + mr_1) <= (List.length [n]))) && (k0 (List.take mr_1 (List.drop mr [n]))))))

def sQ124 (N : Nat) : TSQ124 := GQ124 N (sQ1 N)

abbrev TSQ0 : Type := Bool -> List Int -> Bool -> (Bool -> Bool) -> Bool

def GQ0 (N : Nat) (neg : Bool) (abs : List Int) (b : Bool) (k0 : Bool -> Bool) : Bool :=
  (cond (neg == true) (k0 (decide ((((List.length abs) : Nat) : Int) > 0))) (k0 false))

def sQ0 (N : Nat) : TSQ0 := GQ0 N

abbrev TSQ52 : Type := Int -> Bool -> (Bool -> List Int -> Bool) -> Bool

def GQ52 (N : Nat) (SQ124 : TSQ124) (SQ0 : TSQ0) (n : Int) (b : Bool) (k0 : Bool -> List Int -> Bool) : Bool :=
  (SQ124 n (fun nsr => (SQ0 false nsr b (fun cr => (k0 cr nsr)))))

def sQ52 (N : Nat) : TSQ52 := GQ52 N (sQ124 N) (sQ0 N)

abbrev TSQ77 : Type := List Int -> (List Int -> Bool) -> Bool

def GQ77 (N : Nat) (x : List Int) (k0 : List Int -> Bool) : Bool :=
  ((decide ((List.length ([] ++ x)) * 8 <= 140737488355328)) && (k0 ([] ++ x)))

def sQ77 (N : Nat) : TSQ77 := GQ77 N

abbrev TSQ35 : Type := Bool -> List Int -> Bool -> List Int -> (Bool -> Bool) -> Bool

def GQ35 (N : Nat) (neg : Bool) (abs : List Int) (b : Bool) (b_1 : List Int) (k0 : Bool -> Bool) : Bool :=
  (cond (neg == true) (k0 (decide ((((List.length abs) : Nat) : Int) > 0))) (k0 false))

def sQ35 (N : Nat) : TSQ35 := GQ35 N

abbrev TSQ27 : Type := Bool -> List Int -> (Bool -> List Int -> Bool) -> Bool

def GQ27 (N : Nat) (SQ77 : TSQ77) (SQ35 : TSQ35) (b : Bool) (b_1 : List Int) (k0 : Bool -> List Int -> Bool) : Bool :=
  (SQ77 b_1 (fun nsr => (SQ35 (!b) nsr b b_1 (fun cr => (k0 cr nsr)))))

def sQ27 (N : Nat) : TSQ27 := GQ27 N (sQ77 N) (sQ35 N)

abbrev TSQ146 : Type := Fl -> (Int -> Bool -> List Int -> Bool) -> Bool

def GQ146 (N : Nat) (SQ156 : TSQ156) (SQ52 : TSQ52) (SQ27 : TSQ27) (x : Fl) (k0 : Int -> Bool -> List Int -> Bool) : Bool :=
  (SQ156 x (fun cr nr nr_1 nr_2 => (SQ52 nr false (fun cr_1 nsr => (cond cr (SQ27 cr_1 nsr (fun cr_2 nsr_1 => (k0 nr_1 cr_2 nsr_1))) (k0 nr_1 cr_1 nsr))))))

def sQ146 (N : Nat) : TSQ146 := GQ146 N (sQ156 N) (sQ52 N) (sQ27 N)

abbrev TSQ105 : Type := Int -> Int -> (Int -> Int -> Bool) -> Bool

def GQ105 (N : Nat) (x y : Int) (k0 : Int -> Int -> Bool) : Bool :=
  (k0 (IntKind.wrap .u64 ((IntKind.wrap .u64 ((IntKind.wrap .u64 ((Int.fdiv x (2 ^ 32)) * (Int.fdiv y (2 ^ 32)))) + (Int.fdiv (IntKind.wrap .u64 ((IntKind.wrap .u64 ((Int.fdiv x (2 ^ 32)) * (bitsN .and .u64 y 4294967295))) + (Int.fdiv (IntKind.wrap .u64 ((bitsN .and .u64 x 4294967295) * (bitsN .and .u64 y 4294967295))) (2 ^ 32)))) (2 ^ 32)))) + (Int.fdiv (IntKind.wrap .u64 ((bitsN .and .u64 (IntKind.wrap .u64 ((IntKind.wrap .u64 ((Int.fdiv x (2 ^ 32)) * (bitsN .and .u64 y 4294967295))) + (Int.fdiv (IntKind.wrap .u64 ((bitsN .and .u64 x 4294967295) * (bitsN .and .u64 y 4294967295))) (2 ^ 32)))) 4294967295) + (IntKind.wrap .u64 ((bitsN .and .u64 x 4294967295) * (Int.fdiv y (2 ^ 32)))))) (2 ^ 32)))) (IntKind.wrap .u64 (x * y)))

def sQ105 (N : Nat) : TSQ105 := GQ105 N

abbrev TSQ68 : Type := Int -> Int -> Int -> (Int -> Int -> Bool) -> Bool

def sQ68 (N : Nat) : TSQ68 := fun x y c k => (decide (c.toNat <= 1)) && k (((x.toNat + y.toNat + c.toNat) % 18446744073709551616 : Nat) : Int) (((x.toNat + y.toNat + c.toNat) / 18446744073709551616 : Nat) : Int)

abbrev TSQ102 : Type := Int -> Int -> Int -> Int -> (Int -> Int -> Bool) -> Bool

def GQ102 (N : Nat) (SQ105 : TSQ105) (SQ68 : TSQ68) (a b c d : Int) (k0 : Int -> Int -> Bool) : Bool :=
  (SQ105 a b (fun nr nr_1 => (SQ68 nr_1 c 0 (fun nr_2 nr_3 => (SQ68 nr_2 d 0 (fun nr_4 nr_5 => (k0 (IntKind.wrap .u64 ((IntKind.wrap .u64 (nr + nr_3)) + nr_5)) nr_4)))))))

def sQ102 (N : Nat) : TSQ102 := GQ102 N (sQ105 N) (sQ68 N)

abbrev TSQ130 : Type := List Int -> List Int -> (List Int -> Bool) -> Bool

def st_big_times_2 (N : Nat) (SQ102 : TSQ102) (SQ1 : TSQ1) (y_2 : List Int) (i a : Int) (t25_1 : List Int) (t26_1 t27_1 : Int) (t32 : List Int) (t33 : Int) (e0 : Int -> List Int -> Bool) : (Int × Int × List Int) -> ((Int × Int × List Int) -> Bool) -> Bool := fun v_ K => match v_ with
  | (carry, t34, z_1) => (cond (decide (t34 < t33)) ((inR t34 (List.length t32)) && ((fits .i64 (i + t34)) && ((fits .i64 (i + t34)) && ((inR (i + t34) (List.length z_1)) && ((decide ((Int.toNat (i + t34)) < (List.length z_1))) && (SQ102 a (List.getD t32 (Int.toNat t34) 0) (List.getD z_1 (Int.toNat (i + t34)) 0) carry (fun nr nr_1 => ((inR (i + t34) (List.length z_1)) && ((decide ((Int.toNat (i + t34)) < (List.length z_1))) && ((fits .i64 (t34 + 1)) && (K (nr, (t34 + 1), (List.set z_1 (Int.toNat (i + t34)) nr_1))))))))))))) (e0 carry z_1))

def st_big_times_0 (N : Nat) (SQ102 : TSQ102) (SQ1 : TSQ1) (y_1 t25 : List Int) (t26 : Int) (e0 : List Int -> Bool) : (Int × List Int) -> ((Int × List Int) -> Bool) -> Bool := fun v_ K => match v_ with
  | (t27, z) => (cond (decide (t27 < t26)) ((inR t27 (List.length t25)) && (iterG N (st_big_times_2 N SQ102 SQ1 y_1 t27 (List.getD t25 (Int.toNat t27) 0) t25 t26 t27 y_1 (((List.length y_1) : Nat) : Int) (fun carry_1 z_2 => ((fits .i64 (t27 + (((List.length y_1) : Nat) : Int))) && ((inR (t27 + (((List.length y_1) : Nat) : Int)) (List.length z_2)) && ((decide ((Int.toNat (t27 + (((List.length y_1) : Nat) : Int))) < (List.length z_2))) && ((fits .i64 (t27 + 1)) && (K ((t27 + 1), (List.set z_2 (Int.toNat (t27 + (((List.length y_1) : Nat) : Int))) carry_1))))))))) (0, 0, z))) (e0 z))

def GQ130 (N : Nat) (SQ102 : TSQ102) (SQ1 : TSQ1) (x y : List Int) (k0 : List Int -> Bool) : Bool :=
  (cond (((((List.length x) : Nat) : Int) == 0) == false) (cond ((((List.length y) : Nat) : Int) == 0) (k0 []) ((fits .i64 ((((List.length x) : Nat) : Int) + (((List.length y) : Nat) : Int))) && ((mkOk 8 ((((List.length x) : Nat) : Int) + (((List.length y) : Nat) : Int)) ((((List.length x) : Nat) : Int) + (((List.length y) : Nat) : Int))) && (iterG N (st_big_times_0 N SQ102 SQ1 y x (((List.length x) : Nat) : Int) (fun z_3 => (SQ1 z_3 (fun mr mr_1 => ((decide ((mr + mr_1) <= (List.length z_3))) && (k0 (List.take mr_1 (List.drop mr z_3)))))))) (0, (List.replicate (Int.toNat ((((List.length x) : Nat) : Int) + (((List.length y) : Nat) : Int))) (0 : Int))))))) (k0 []))

def sQ130 (N : Nat) : TSQ130 := GQ130 N (sQ102 N) (sQ1 N)

abbrev TSQ53 : Type := Bool -> Bool -> List Int -> Bool -> List Int -> (Bool -> List Int -> Bool) -> Bool

def GQ53 (N : Nat) (SQ130 : TSQ130) (SQ0 : TSQ0) (b b_1 : Bool) (b_2 : List Int) (b_3 : Bool) (b_4 : List Int) (k0 : Bool -> List Int -> Bool) : Bool :=
  (SQ130 b_2 b_4 (fun nsr => (SQ0 (b_1 != b_3) nsr b (fun cr => (k0 cr nsr)))))

def sQ53 (N : Nat) : TSQ53 := GQ53 N (sQ130 N) (sQ0 N)

abbrev TSQ19 : Type := Int -> Int -> Bool -> List Int -> Bool -> List Int -> (Int -> Bool -> List Int -> Bool) -> Bool

def GQ19 (N : Nat) (SQ53 : TSQ53) (x y : Int) (b : Bool) (b_1 : List Int) (b_2 : Bool) (b_3 : List Int) (k0 : Int -> Bool -> List Int -> Bool) : Bool :=
  (SQ53 false b b_1 b_2 b_3 (fun cr nsr => ((fits .i64 (x + y)) && (k0 (x + y) cr nsr))))

def sQ19 (N : Nat) : TSQ19 := GQ19 N (sQ53 N)

abbrev TSQ81 : Type := Bool -> (Int -> List Int -> Bool) -> Bool

def GQ81 (N : Nat) (b : Bool) (k0 : Int -> List Int -> Bool) : Bool :=
  (cond b (k0 (-1) []) (k0 0 []))

def sQ81 (N : Nat) : TSQ81 := GQ81 N

abbrev TSQ2 : Type := Bool -> List Int -> (Int -> Bool) -> Bool

def GQ2 (N : Nat) (b : Bool) (b_1 : List Int) (k0 : Int -> Bool) : Bool :=
  (cond b (k0 (-1)) (cond ((((List.length b_1) : Nat) : Int) == 0) (k0 0) (k0 1)))

def sQ2 (N : Nat) : TSQ2 := GQ2 N

abbrev TSQ103 : Type := List Int -> Int -> (List Int -> Bool) -> Bool

def st_big_left_0 (N : Nat) (SQ1 : TSQ1) (words rest : Int) (t24 : List Int) (t25 : Int) (e0 : List Int -> Bool) : (Int × List Int) -> ((Int × List Int) -> Bool) -> Bool := fun v_ K => match v_ with
  | (t26, z) => (cond (decide (t26 < t25)) ((inR t26 (List.length t24)) && ((fits .i64 (words + t26)) && ((inR (words + t26) (List.length z)) && ((decide ((Int.toNat (words + t26)) < (List.length z))) && ((decide (0 <= rest)) && ((inR (words + t26) (List.length z)) && ((decide ((Int.toNat (words + t26)) < (List.length z))) && ((fits .i64 (words + t26)) && ((fits .i64 ((words + t26) + 1)) && ((decide (0 <= (IntKind.wrap .u64 (64 - rest)))) && ((inR ((words + t26) + 1) (List.length (List.set z (Int.toNat (words + t26)) (bitsN .or .u64 (List.getD z (Int.toNat (words + t26)) 0) (IntKind.wrap .u64 ((List.getD t24 (Int.toNat t26) 0) * 2 ^ (min (Int.toNat rest) 64))))))) && ((decide ((Int.toNat ((words + t26) + 1)) < (List.length (List.set z (Int.toNat (words + t26)) (bitsN .or .u64 (List.getD z (Int.toNat (words + t26)) 0) (IntKind.wrap .u64 ((List.getD t24 (Int.toNat t26) 0) * 2 ^ (min (Int.toNat rest) 64)))))))) && ((fits .i64 (t26 + 1)) && (K ((t26 + 1), (List.set (List.set z (Int.toNat (words + t26)) (bitsN .or .u64 (List.getD z (Int.toNat (words + t26)) 0) (IntKind.wrap .u64 ((List.getD t24 (Int.toNat t26) 0) * 2 ^ (min (Int.toNat rest) 64))))) (Int.toNat ((words + t26) + 1)) (Int.fdiv (List.getD t24 (Int.toNat t26) 0) (2 ^ (min (Int.toNat (IntKind.wrap .u64 (64 - rest))) 64))))))))))))))))))) (e0 z))

def GQ103 (N : Nat) (SQ1 : TSQ1) (x : List Int) (n : Int) (k0 : List Int -> Bool) : Bool :=
  (cond ((((List.length x) : Nat) : Int) == 0) (k0 []) ((fits .i64 (IntKind.wrap .u64 (Int.tdiv n 64))) && ((fits .i64 ((IntKind.wrap .u64 (Int.tdiv n 64)) + (((List.length x) : Nat) : Int))) && ((fits .i64 (((IntKind.wrap .u64 (Int.tdiv n 64)) + (((List.length x) : Nat) : Int)) + 1)) && ((mkOk 8 (((IntKind.wrap .u64 (Int.tdiv n 64)) + (((List.length x) : Nat) : Int)) + 1) (((IntKind.wrap .u64 (Int.tdiv n 64)) + (((List.length x) : Nat) : Int)) + 1)) && (iterG N (st_big_left_0 N SQ1 (IntKind.wrap .u64 (Int.tdiv n 64)) (Int.tmod n 64) x (((List.length x) : Nat) : Int) (fun z_1 => (SQ1 z_1 (fun mr mr_1 => ((decide ((mr + mr_1) <= (List.length z_1))) && (k0 (List.take mr_1 (List.drop mr z_1)))))))) (0, (List.replicate (Int.toNat (((IntKind.wrap .u64 (Int.tdiv n 64)) + (((List.length x) : Nat) : Int)) + 1)) (0 : Int)))))))))

def sQ103 (N : Nat) : TSQ103 := GQ103 N (sQ1 N)

abbrev TSQ65 : Type := Int -> Bool -> Bool -> List Int -> (Bool -> List Int -> Bool) -> Bool

def GQ65 (N : Nat) (SQ103 : TSQ103) (SQ0 : TSQ0) (n : Int) (b b_1 : Bool) (b_2 : List Int) (k0 : Bool -> List Int -> Bool) : Bool :=
  (SQ103 b_2 n (fun nsr => (SQ0 b_1 nsr b (fun cr => (k0 cr nsr)))))

def sQ65 (N : Nat) : TSQ65 := GQ65 N (sQ103 N) (sQ0 N)

abbrev TSQ36 : Type := Int -> Int -> Bool -> List Int -> (Bool -> List Int -> Bool) -> Bool

def GQ36 (N : Nat) (SQ65 : TSQ65) (x e : Int) (b : Bool) (b_1 : List Int) (k0 : Bool -> List Int -> Bool) : Bool :=
  ((fits .i64 (x - e)) && (SQ65 (IntKind.wrap .u64 (x - e)) false b b_1 (fun cr nsr => (k0 cr nsr))))

def sQ36 (N : Nat) : TSQ36 := GQ36 N (sQ65 N)

abbrev TSQ20 : Type := List Int -> Int -> (Int -> Bool) -> Bool

def GQ20 (N : Nat) (x : List Int) (i : Int) (k0 : Int -> Bool) : Bool :=
  (cond (decide (i < (((List.length x) : Nat) : Int))) ((inR i (List.length x)) && (k0 (List.getD x (Int.toNat i) 0))) (k0 0))

def sQ20 (N : Nat) : TSQ20 := GQ20 N

abbrev TSQ145 : Type := List Int -> List Int -> (List Int -> Bool) -> Bool

def st_big_sum_0 (N : Nat) (SQ20 : TSQ20) (SQ68 : TSQ68) (SQ1 : TSQ1) (x_1 y_1 : List Int) (n t17 : Int) (e0 : Int -> List Int -> Bool) : (Int × Int × List Int) -> ((Int × Int × List Int) -> Bool) -> Bool := fun v_ K => match v_ with
  | (carry, t18, z) => (cond (decide (t18 < t17)) (SQ20 x_1 t18 (fun nr => (SQ20 y_1 t18 (fun nr_1 => (SQ68 nr nr_1 carry (fun nr_2 nr_3 => ((inR t18 (List.length z)) && ((decide ((Int.toNat t18) < (List.length z))) && ((fits .i64 (t18 + 1)) && (K (nr_3, (t18 + 1), (List.set z (Int.toNat t18) nr_2)))))))))))) (e0 carry z))

def GQ145 (N : Nat) (SQ20 : TSQ20) (SQ68 : TSQ68) (SQ1 : TSQ1) (x y : List Int) (k0 : List Int -> Bool) : Bool :=
  ((fits .i64 ((imm true (((List.length x) : Nat) : Int) (((List.length y) : Nat) : Int)) + 1)) && ((mkOk 8 ((imm true (((List.length x) : Nat) : Int) (((List.length y) : Nat) : Int)) + 1) ((imm true (((List.length x) : Nat) : Int) (((List.length y) : Nat) : Int)) + 1)) && (iterG N (st_big_sum_0 N SQ20 SQ68 SQ1 x y (imm true (((List.length x) : Nat) : Int) (((List.length y) : Nat) : Int)) (imm true (((List.length x) : Nat) : Int) (((List.length y) : Nat) : Int)) (fun carry_1 z_1 => ((inR (imm true (((List.length x) : Nat) : Int) (((List.length y) : Nat) : Int)) (List.length z_1)) && ((decide ((Int.toNat (imm true (((List.length x) : Nat) : Int) (((List.length y) : Nat) : Int))) < (List.length z_1))) && (SQ1 (List.set z_1 (Int.toNat (imm true (((List.length x) : Nat) : Int) (((List.length y) : Nat) : Int))) carry_1) (fun mr mr_1 => ((decide ((mr + mr_1) <= (List.length (List.set z_1 (Int.toNat (imm true (((List.length x) : Nat) : Int) (((List.length y) : Nat) : Int))) carry_1)))) && (k0 (List.take mr_1 (List.drop mr (List.set z_1 (Int.toNat (imm true (((List.length x) : Nat) : Int) (((List.length y) : Nat) : Int))) carry_1))))))))))) (0, 0, (List.replicate (Int.toNat ((imm true (((List.length x) : Nat) : Int) (((List.length y) : Nat) : Int)) + 1)) (0 : Int))))))

def sQ145 (N : Nat) : TSQ145 := GQ145 N (sQ20 N) (sQ68 N) (sQ1 N)

abbrev TSQ111 : Type := List Int -> List Int -> (Int -> Bool) -> Bool

def stQ192 (N : Nat) (x_1 y_1 : List Int) (e0 : Int -> Bool) (e1 : Bool) : (Int) -> ((Int) -> Bool) -> Bool := fun v_ K => match v_ with
  | i => (cond (decide (i >= 0)) ((inR i (List.length x_1)) && ((inR i (List.length y_1)) && (cond ((List.getD x_1 (Int.toNat i) 0) != (List.getD y_1 (Int.toNat i) 0)) ((inR i (List.length x_1)) && ((inR i (List.length y_1)) && (cond (decide ((List.getD x_1 (Int.toNat i) 0) < (List.getD y_1 (Int.toNat i) 0))) (e0 (-1)) (e0 1)))) ((fits .i64 (i - 1)) && (K (i - 1)))))) e1)

def GQ111 (N : Nat) (x y : List Int) (k0 : Int -> Bool) : Bool :=
  (cond ((((List.length x) : Nat) : Int) != (((List.length y) : Nat) : Int)) (cond (decide ((((List.length x) : Nat) : Int) < (((List.length y) : Nat) : Int))) (k0 (-1)) (k0 1)) ((fits .i64 ((((List.length x) : Nat) : Int) - 1)) && (iterG N (stQ192 N x y (fun t4 => (k0 t4)) (k0 0)) ((((List.length x) : Nat) : Int) - 1))))

def sQ111 (N : Nat) : TSQ111 := GQ111 N

abbrev TSQ95 : Type := Int -> Int -> Int -> (Int -> Int -> Bool) -> Bool

def sQ95 (N : Nat) : TSQ95 := fun x y c k => (decide (c.toNat <= 1)) && k (((x.toNat + 18446744073709551616 - y.toNat - c.toNat) % 18446744073709551616 : Nat) : Int) (cond (decide (x.toNat < y.toNat + c.toNat)) 1 0)

abbrev TSQ151 : Type := List Int -> List Int -> (List Int -> Bool) -> Bool

def st_big_less_0 (N : Nat) (SQ20 : TSQ20) (SQ95 : TSQ95) (SQ1 : TSQ1) (x_1 y_1 : List Int) (t12 : Int) (e0 : List Int -> Bool) : (Int × Int × List Int) -> ((Int × Int × List Int) -> Bool) -> Bool := fun v_ K => match v_ with
  | (borrow, t13, z) => (cond (decide (t13 < t12)) ((inR t13 (List.length x_1)) && (SQ20 y_1 t13 (fun nr => (SQ95 (List.getD x_1 (Int.toNat t13) 0) nr borrow (fun nr_1 nr_2 => ((inR t13 (List.length z)) && ((decide ((Int.toNat t13) < (List.length z))) && ((fits .i64 (t13 + 1)) && (K (nr_2, (t13 + 1), (List.set z (Int.toNat t13) nr_1))))))))))) (e0 z))

def GQ151 (N : Nat) (SQ20 : TSQ20) (SQ95 : TSQ95) (SQ1 : TSQ1) (x y : List Int) (k0 : List Int -> Bool) : Bool :=
  ((mkOk 8 (((List.length x) : Nat) : Int) (((List.length x) : Nat) : Int)) && (iterG N (st_big_less_0 N SQ20 SQ95 SQ1 x y (((List.length x) : Nat) : Int) (fun z_1 => (SQ1 z_1 (fun mr mr_1 => ((decide ((mr + mr_1) <= (List.length z_1))) && (k0 (List.take mr_1 (List.drop mr z_1)))))))) (0, 0, (List.replicate (Int.toNat (((List.length x) : Nat) : Int)) (0 : Int)))))

def sQ151 (N : Nat) : TSQ151 := GQ151 N (sQ20 N) (sQ95 N) (sQ1 N)

abbrev TSQ62 : Type := Bool -> List Int -> Bool -> Bool -> List Int -> (Bool -> List Int -> Bool) -> Bool

def GQ62 (N : Nat) (SQ145 : TSQ145) (SQ0 : TSQ0) (SQ111 : TSQ111) (SQ151 : TSQ151) (neg : Bool) (y : List Int) (b b_1 : Bool) (b_2 : List Int) (k0 : Bool -> List Int -> Bool) : Bool :=
  (cond (b_1 == neg) (SQ145 b_2 y (fun nsr => (SQ0 neg nsr b (fun cr => (k0 cr nsr))))) (SQ111 b_2 y (fun nr => (cond (decide (nr >= 0)) (SQ151 b_2 y (fun nsr_1 => (SQ0 b_1 nsr_1 b (fun cr_1 => (k0 cr_1 nsr_1))))) (SQ151 y b_2 (fun nsr_2 => (SQ0 neg nsr_2 b (fun cr_2 => (k0 cr_2 nsr_2)))))))))

def sQ62 (N : Nat) : TSQ62 := GQ62 N (sQ145 N) (sQ0 N) (sQ111 N) (sQ151 N)

abbrev TSQ29 : Type := Bool -> Bool -> List Int -> Bool -> List Int -> (Bool -> List Int -> Bool) -> Bool

def GQ29 (N : Nat) (SQ62 : TSQ62) (b b_1 : Bool) (b_2 : List Int) (b_3 : Bool) (b_4 : List Int) (k0 : Bool -> List Int -> Bool) : Bool :=
  (SQ62 b_3 b_4 b b_1 b_2 (fun cr nsr => (k0 cr nsr)))

def sQ29 (N : Nat) : TSQ29 := GQ29 N (sQ62 N)

abbrev TSQ21 : Type := Int -> Int -> Bool -> Bool -> List Int -> (List Int -> Bool) -> (List Int -> Bool) -> (Int -> List Int -> Bool -> List Int -> Bool) -> Bool

def GQ21 (N : Nat) (SQ81 : TSQ81) (SQ2 : TSQ2) (SQ36 : TSQ36) (SQ29 : TSQ29) (x y : Int) (b b_1 : Bool) (b_2 : List Int) (k0 : List Int -> Bool) (k1 : List Int -> Bool) (k2 : Int -> List Int -> Bool -> List Int -> Bool) : Bool :=
  (SQ81 b (fun nr nsr => (cond (nr == 0) (k0 nsr) (SQ2 b_1 b_2 (fun nr_1 => (cond (nr_1 == 0) (k1 nsr) (SQ36 x (imm false x y) b nsr (fun cr nsr_1 => (SQ36 y (imm false x y) b_1 b_2 (fun cr_1 nsr_2 => (SQ29 false cr nsr_1 cr_1 nsr_2 (fun cr_2 nsr_3 => (k2 (imm false x y) nsr cr_2 nsr_3)))))))))))))

def sQ21 (N : Nat) : TSQ21 := GQ21 N (sQ81 N) (sQ2 N) (sQ36 N) (sQ29 N)

abbrev TSQ3 : Type := Int -> Int -> Bool -> List Int -> Bool -> List Int -> (Bool) -> (Bool) -> (Int -> Bool -> List Int -> Bool) -> Bool

def GQ3 (N : Nat) (SQ2 : TSQ2) (SQ36 : TSQ36) (SQ29 : TSQ29) (x y : Int) (b : Bool) (b_1 : List Int) (b_2 : Bool) (b_3 : List Int) (k0 k1 : Bool) (k2 : Int -> Bool -> List Int -> Bool) : Bool :=
  (SQ2 b b_1 (fun nr => (cond (nr == 0) k0 (SQ2 b_2 b_3 (fun nr_1 => (cond (nr_1 == 0) k1 (SQ36 x (imm false x y) b b_1 (fun cr nsr => (SQ36 y (imm false x y) b_2 b_3 (fun cr_1 nsr_1 => (SQ29 false cr nsr cr_1 nsr_1 (fun cr_2 nsr_2 => (k2 (imm false x y) cr_2 nsr_2)))))))))))))

def sQ3 (N : Nat) : TSQ3 := GQ3 N (sQ2 N) (sQ36 N) (sQ29 N)

abbrev TSQ37 : Type := Bool -> Bool -> List Int -> (Bool -> List Int -> Bool) -> Bool

def GQ37 (N : Nat) (SQ77 : TSQ77) (SQ0 : TSQ0) (b b_1 : Bool) (b_2 : List Int) (k0 : Bool -> List Int -> Bool) : Bool :=
  (SQ77 b_2 (fun nsr => (SQ0 b_1 nsr b (fun cr => (k0 cr nsr)))))

def sQ37 (N : Nat) : TSQ37 := GQ37 N (sQ77 N) (sQ0 N)

abbrev TSQ55 : Type := Int -> Bool -> List Int -> (Int -> Bool) -> Bool

def GQ55 (N : Nat) (SQ20 : TSQ20) (i : Int) (b : Bool) (b_1 : List Int) (k0 : Int -> Bool) : Bool :=
  ((fits .i64 (Int.tdiv i 64)) && (SQ20 b_1 (Int.tdiv i 64) (fun nr => ((decide (0 <= (Int.tmod i 64))) && (k0 (bitsN .and .u64 (Int.fdiv nr (2 ^ (min (Int.toNat (Int.tmod i 64)) 64))) 1))))))

def sQ55 (N : Nat) : TSQ55 := GQ55 N (sQ20 N)

abbrev TSQ14 : Type := Bool -> List Int -> (Int -> Bool) -> Bool

def stQ181 (N : Nat) (SQ6 : TSQ6) (t8 : List Int) (t9 : Int) (b0 : Bool) (b0_1 : List Int) (e0 : Int -> Bool) (e1 : Bool) : (Int) -> ((Int) -> Bool) -> Bool := fun v_ K => match v_ with
  | t10 => (cond (decide (t10 < t9)) ((inR t10 (List.length t8)) && (cond ((List.getD t8 (Int.toNat t10) 0) != 0) ((fits .i64 (64 * t10)) && (SQ6 (List.getD t8 (Int.toNat t10) 0) (fun nr => ((fits .i64 ((64 * t10) + nr)) && (e0 (IntKind.wrap .u64 ((64 * t10) + nr))))))) ((fits .i64 (t10 + 1)) && (K (t10 + 1))))) e1)

def GQ14 (N : Nat) (SQ6 : TSQ6) (b : Bool) (b_1 : List Int) (k0 : Int -> Bool) : Bool :=
  (iterG N (stQ181 N SQ6 b_1 (((List.length b_1) : Nat) : Int) b b_1 (fun t2 => (k0 t2)) (k0 0)) 0)

def sQ14 (N : Nat) : TSQ14 := GQ14 N (sQ6 N)

abbrev TSQ127 : Type := List Int -> Int -> (List Int -> Bool -> Bool) -> Bool

def st_big_right_0 (N : Nat) (SQ20 : TSQ20) (SQ1 : TSQ1) (x_1 : List Int) (words rest : Int) (t37 : List Int) (t38 : Int) (e0 : Int -> Bool) : (Int × Int) -> ((Int × Int) -> Bool) -> Bool := fun v_ K => match v_ with
  | (lost, t39) => (cond (decide (t39 < t38)) ((inR t39 (List.length t37)) && ((fits .i64 (t39 + 1)) && (K ((bitsN .or .u64 lost (List.getD t37 (Int.toNat t39) 0)), (t39 + 1))))) (e0 lost))

def st_big_right_2 (N : Nat) (SQ20 : TSQ20) (SQ1 : TSQ1) (x_2 : List Int) (words_1 rest_1 lost_2 t53 : Int) (e0 : List Int -> Bool) : (Int × List Int) -> ((Int × List Int) -> Bool) -> Bool := fun v_ K => match v_ with
  | (t54, z) => (cond (decide (t54 < t53)) ((fits .i64 (words_1 + t54)) && (SQ20 x_2 (words_1 + t54) (fun nr => ((decide (0 <= rest_1)) && ((fits .i64 (words_1 + t54)) && ((fits .i64 ((words_1 + t54) + 1)) && (SQ20 x_2 ((words_1 + t54) + 1) (fun nr_1 => ((decide (0 <= (IntKind.wrap .u64 (64 - rest_1)))) && ((inR t54 (List.length z)) && ((decide ((Int.toNat t54) < (List.length z))) && ((fits .i64 (t54 + 1)) && (K ((t54 + 1), (List.set z (Int.toNat t54) (bitsN .or .u64 (Int.fdiv nr (2 ^ (min (Int.toNat rest_1) 64))) (IntKind.wrap .u64 (nr_1 * 2 ^ (min (Int.toNat (IntKind.wrap .u64 (64 - rest_1))) 64))))))))))))))))))) (e0 z))

def GQ127 (N : Nat) (SQ20 : TSQ20) (SQ1 : TSQ1) (x : List Int) (n : Int) (k0 : List Int -> Bool -> Bool) : Bool :=
  (cond (decide ((IntKind.wrap .u64 (Int.tdiv n 64)) >= (IntKind.wrap .u64 (((List.length x) : Nat) : Int)))) (k0 [] (decide ((((List.length x) : Nat) : Int) > 0))) ((fits .i64 (IntKind.wrap .u64 (Int.tdiv n 64))) && ((inR (IntKind.wrap .u64 (Int.tdiv n 64)) (List.length x)) && ((decide (0 <= (Int.tmod n 64))) && ((decide (0 <= (IntKind.wrap .u64 (Int.tdiv n 64)) /\ (IntKind.wrap .u64 (Int.tdiv n 64)) <= (((List.length x) : Nat) : Int))) && (iterG N (st_big_right_0 N SQ20 SQ1 x (IntKind.wrap .u64 (Int.tdiv n 64)) (Int.tmod n 64) (List.drop 0 (List.take (Int.toNat (IntKind.wrap .u64 (Int.tdiv n 64))) x)) (((List.length (List.drop 0 (List.take (Int.toNat (IntKind.wrap .u64 (Int.tdiv n 64))) x))) : Nat) : Int) (fun lost_1 => ((fits .i64 ((((List.length x) : Nat) : Int) - (IntKind.wrap .u64 (Int.tdiv n 64)))) && ((mkOk 8 ((((List.length x) : Nat) : Int) - (IntKind.wrap .u64 (Int.tdiv n 64))) ((((List.length x) : Nat) : Int) - (IntKind.wrap .u64 (Int.tdiv n 64)))) && (iterG N (st_big_right_2 N SQ20 SQ1 x (IntKind.wrap .u64 (Int.tdiv n 64)) (Int.tmod n 64) lost_1 (((List.length (List.replicate (Int.toNat ((((List.length x) : Nat) : Int) - (IntKind.wrap .u64 (Int.tdiv n 64)))) (0 : Int))) : Nat) : Int) (fun z_1 => (SQ1 z_1 (fun mr mr_1 => ((decide ((mr + mr_1) <= (List.length z_1))) && (k0 (List.take mr_1 (List.drop mr z_1)) (lost_1 != 0))))))) (0, (List.replicate (Int.toNat ((((List.length x) : Nat) : Int) - (IntKind.wrap .u64 (Int.tdiv n 64)))) (0 : Int)))))))) ((bitsN .and .u64 (List.getD x (Int.toNat (IntKind.wrap .u64 (Int.tdiv n 64))) 0) (IntKind.wrap .u64 ((IntKind.wrap .u64 ((1 : Int) * 2 ^ (min (Int.toNat (Int.tmod n 64)) 64))) - 1))), 0)))))))

def sQ127 (N : Nat) : TSQ127 := GQ127 N (sQ20 N) (sQ1 N)

abbrev TSQ18 : Type := Int -> Bool -> List Int -> (Bool -> List Int -> Bool) -> Bool

def GQ18 (N : Nat) (SQ127 : TSQ127) (SQ145 : TSQ145) (SQ35 : TSQ35) (n : Int) (b : Bool) (b_1 : List Int) (k0 : Bool -> List Int -> Bool) : Bool :=
  (SQ127 b_1 n (fun nsr cr => (cond (b == true) (cond cr (SQ145 nsr [1] (fun nsr_1 => (SQ35 b nsr_1 b b_1 (fun cr_1 => (k0 cr_1 nsr_1))))) (SQ35 b nsr b b_1 (fun cr_2 => (k0 cr_2 nsr)))) (SQ35 b nsr b b_1 (fun cr_3 => (k0 cr_3 nsr))))))

def sQ18 (N : Nat) : TSQ18 := GQ18 N (sQ127 N) (sQ145 N) (sQ35 N)

abbrev TSQ22 : Type := Int -> Bool -> List Int -> (Int -> Bool -> List Int -> Bool) -> Bool

def stQ179 (N : Nat) (SQ37 : TSQ37) (SQ2 : TSQ2) (SQ55 : TSQ55) (SQ14 : TSQ14) (SQ18 : TSQ18) (b0 : Bool) (b0_1 : List Int) (t2 : Value) (t2_1 : Int) (e0 : Int -> Bool -> List Int -> Bool) : (Int × Bool × List Int) -> ((Int × Bool × List Int) -> Bool) -> Bool := fun v_ K => match v_ with
  | (e, n, n_1) => (SQ2 n n_1 (fun nr => (cond ((nr != 0) == true) (SQ55 0 n n_1 (fun nr_1 => (cond (nr_1 == 0) (SQ14 n n_1 (fun nr_2 => (SQ18 nr_2 n n_1 (fun cr_1 nsr_1 => ((fits .i64 nr_2) && ((fits .i64 (e + nr_2)) && (K ((e + nr_2), cr_1, nsr_1)))))))) (e0 e n n_1)))) (e0 e n n_1))))

def GQ22 (N : Nat) (SQ37 : TSQ37) (SQ2 : TSQ2) (SQ55 : TSQ55) (SQ14 : TSQ14) (SQ18 : TSQ18) (x : Int) (b : Bool) (b_1 : List Int) (k0 : Int -> Bool -> List Int -> Bool) : Bool :=
  (SQ37 false b b_1 (fun cr nsr => (iterG N (stQ179 N SQ37 SQ2 SQ55 SQ14 SQ18 b b_1 (.pointer none) 0 (fun e_1 n_2 n_3 => (k0 e_1 n_2 n_3))) (x, cr, nsr))))

def sQ22 (N : Nat) : TSQ22 := GQ22 N (sQ37 N) (sQ2 N) (sQ55 N) (sQ14 N) (sQ18 N)

abbrev TSQ94 : Type := Int -> (Int -> Bool) -> Bool

def JQ182 (N : Nat) (x x_2 n_1 : Int) (k0 : Int -> Bool) : Bool :=
  (cond (decide (x_2 >= 256)) ((fits .i64 (n_1 + 8)) && ((inR (IntKind.wrap .u8 (Int.fdiv x_2 (2 ^ 8))) 256) && ((fits .i64 (List.getD strTab_11c1601c (Int.toNat (IntKind.wrap .u8 (Int.fdiv x_2 (2 ^ 8)))) 0)) && ((fits .i64 ((n_1 + 8) + (List.getD strTab_11c1601c (Int.toNat (IntKind.wrap .u8 (Int.fdiv x_2 (2 ^ 8)))) 0))) && (k0 ((n_1 + 8) + (List.getD strTab_11c1601c (Int.toNat (IntKind.wrap .u8 (Int.fdiv x_2 (2 ^ 8)))) 0))))))) ((inR (IntKind.wrap .u8 x_2) 256) && ((fits .i64 (List.getD strTab_11c1601c (Int.toNat (IntKind.wrap .u8 x_2)) 0)) && ((fits .i64 (n_1 + (List.getD strTab_11c1601c (Int.toNat (IntKind.wrap .u8 x_2)) 0))) && (k0 (n_1 + (List.getD strTab_11c1601c (Int.toNat (IntKind.wrap .u8 x_2)) 0)))))))

def JQ180 (N : Nat) (x x_1 n : Int) (k0 : Int -> Bool) : Bool :=
  (cond (decide (x_1 >= 65536)) ((fits .i64 (n + 16)) && (JQ182 N x (Int.fdiv x_1 (2 ^ 16)) (n + 16) k0)) (JQ182 N x x_1 n k0))

def GQ94 (N : Nat) (x : Int) (k0 : Int -> Bool) : Bool :=
  (cond (decide (x >= 4294967296)) (JQ180 N x (Int.fdiv x (2 ^ 32)) 32 k0) (JQ180 N x x 0 k0))

def sQ94 (N : Nat) : TSQ94 := GQ94 N

abbrev TSQ129 : Type := List Int -> (Int -> Bool) -> Bool

def GQ129 (N : Nat) (SQ94 : TSQ94) (x : List Int) (k0 : Int -> Bool) : Bool :=
  (cond ((((List.length x) : Nat) : Int) == 0) (k0 0) ((fits .i64 ((((List.length x) : Nat) : Int) - 1)) && ((fits .i64 (64 * ((((List.length x) : Nat) : Int) - 1))) && ((fits .i64 ((((List.length x) : Nat) : Int) - 1)) && ((inR ((((List.length x) : Nat) : Int) - 1) (List.length x)) && (SQ94 (List.getD x (Int.toNat ((((List.length x) : Nat) : Int) - 1)) 0) (fun nr => ((fits .i64 ((64 * ((((List.length x) : Nat) : Int) - 1)) + nr)) && (k0 ((64 * ((((List.length x) : Nat) : Int) - 1)) + nr))))))))))

def sQ129 (N : Nat) : TSQ129 := GQ129 N (sQ94 N)

abbrev TSQ39 : Type := Bool -> List Int -> (Int -> Bool) -> Bool

def GQ39 (N : Nat) (SQ129 : TSQ129) (b : Bool) (b_1 : List Int) (k0 : Int -> Bool) : Bool :=
  (SQ129 b_1 (fun nr => (k0 nr)))

def sQ39 (N : Nat) : TSQ39 := GQ39 N (sQ129 N)

abbrev TSQ58 : Type := Int -> Bool -> (Bool -> List Int -> Bool) -> Bool

def GQ58 (N : Nat) (SQ124 : TSQ124) (SQ0 : TSQ0) (n : Int) (b : Bool) (k0 : Bool -> List Int -> Bool) : Bool :=
  (cond (decide (n < 0)) (SQ124 (IntKind.wrap .u64 (0 - (IntKind.wrap .u64 n))) (fun nsr => (SQ0 true nsr b (fun cr => (k0 cr nsr))))) (SQ124 (IntKind.wrap .u64 n) (fun nsr_1 => (SQ0 false nsr_1 b (fun cr_1 => (k0 cr_1 nsr_1))))))

def sQ58 (N : Nat) : TSQ58 := GQ58 N (sQ124 N) (sQ0 N)

abbrev TSQ61 : Type := Int -> (Bool -> List Int -> Bool) -> Bool

def GQ61 (N : Nat) (SQ58 : TSQ58) (n : Int) (k0 : Bool -> List Int -> Bool) : Bool :=
  (SQ58 n false (fun cr nsr => (k0 cr nsr)))

def sQ61 (N : Nat) : TSQ61 := GQ61 N (sQ58 N)

abbrev TSQ38 : Type := Bool -> Bool -> List Int -> (Bool -> List Int -> Bool) -> Bool

def GQ38 (N : Nat) (SQ77 : TSQ77) (SQ0 : TSQ0) (b b_1 : Bool) (b_2 : List Int) (k0 : Bool -> List Int -> Bool) : Bool :=
  (SQ77 b_2 (fun nsr => (SQ0 false nsr b (fun cr => (k0 cr nsr)))))

def sQ38 (N : Nat) : TSQ38 := GQ38 N (sQ77 N) (sQ0 N)

abbrev TSQ45 : Type := Bool -> Nat -> Nat -> Bool -> List Int -> (Bool -> Bool) -> Bool

def GQ45 (N : Nat) (neg : Bool) (abs_0 abs_1 : Nat) (b : Bool) (b_1 : List Int) (k0 : Bool -> Bool) : Bool :=
  (cond (neg == true) (k0 (decide (((abs_1 : Nat) : Int) > 0))) (k0 false))

def sQ45 (N : Nat) : TSQ45 := GQ45 N

abbrev TSQ25 : Type := Bool -> Bool -> List Int -> Bool -> List Int -> (Bool -> List Int -> Bool) -> Bool

def stQ185 (N : Nat) (SQ1 : TSQ1) (SQ45 : TSQ45) (t22 : Int) (z x : Bool) (x_1 : List Int) (y : Bool) (y_1 : List Int) (e0 : List Int -> Bool) : (Int × List Int) -> ((Int × List Int) -> Bool) -> Bool := fun v_ K => match v_ with
  | (t23, r) => (cond (decide (t23 < t22)) ((inR t23 (List.length x_1)) && ((inR t23 (List.length y_1)) && ((inR t23 (List.length r)) && ((decide ((Int.toNat t23) < (List.length r))) && ((fits .i64 (t23 + 1)) && (K ((t23 + 1), (List.set r (Int.toNat t23) (bitsN .and .u64 (List.getD x_1 (Int.toNat t23) 0) (List.getD y_1 (Int.toNat t23) 0)))))))))) (e0 r))

def GQ25 (N : Nat) (SQ1 : TSQ1) (SQ45 : TSQ45) (b b_1 : Bool) (b_2 : List Int) (b_3 : Bool) (b_4 : List Int) (k0 : Bool -> List Int -> Bool) : Bool :=
  ((mkOk 8 (imm false (((List.length b_2) : Nat) : Int) (((List.length b_4) : Nat) : Int)) (imm false (((List.length b_2) : Nat) : Int) (((List.length b_4) : Nat) : Int))) && (iterG N (stQ185 N SQ1 SQ45 (((List.length (List.replicate (Int.toNat (imm false (((List.length b_2) : Nat) : Int) (((List.length b_4) : Nat) : Int))) (0 : Int))) : Nat) : Int) b b_1 b_2 b_3 b_4 (fun r_1 => (SQ1 r_1 (fun mr mr_1 => (SQ45 false mr mr_1 b r_1 (fun cr => ((decide ((mr + mr_1) <= (List.length r_1))) && (k0 cr (List.take mr_1 (List.drop mr r_1)))))))))) (0, (List.replicate (Int.toNat (imm false (((List.length b_2) : Nat) : Int) (((List.length b_4) : Nat) : Int))) (0 : Int)))))

def sQ25 (N : Nat) : TSQ25 := GQ25 N (sQ1 N) (sQ45 N)

abbrev TSQ173 : Type := List Int -> (Int -> Bool) -> Bool

def GQ173 (N : Nat) (SQ20 : TSQ20) (x : List Int) (k0 : Int -> Bool) : Bool :=
  (SQ20 x 0 (fun nr => (k0 nr)))

def sQ173 (N : Nat) : TSQ173 := GQ173 N (sQ20 N)

abbrev TSQ40 : Type := Bool -> List Int -> (Int -> Bool) -> Bool

def GQ40 (N : Nat) (SQ173 : TSQ173) (b : Bool) (b_1 : List Int) (k0 : Int -> Bool) : Bool :=
  (SQ173 b_1 (fun nr => (k0 nr)))

def sQ40 (N : Nat) : TSQ40 := GQ40 N (sQ173 N)

abbrev TSQ15 : Type := Int -> Bool -> List Int -> (Bool -> Int -> Int -> Bool) -> (Bool -> Int -> Int -> List Int -> Bool) -> Bool

def stQ186 (N : Nat) (SQ22 : TSQ22) (SQ2 : TSQ2) (SQ39 : TSQ39) (SQ61 : TSQ61) (SQ38 : TSQ38) (SQ25 : TSQ25) (SQ40 : TSQ40) (SQ18 : TSQ18) (b0_2 : Bool) (b0_3 : List Int) (t2_2 : Bool) (t2_3 : Int) (d_2 : Bool) (d_3 : Int) (mask_2 : Bool) (mask_3 : List Int) (e0 : List Int -> Bool) : (Bool × List Int × List Int) -> ((Bool × List Int × List Int) -> Bool) -> Bool := fun v_ K => match v_ with
  | (m_2, m_3, b5) => (SQ2 m_2 m_3 (fun nr_6 => (cond (nr_6 != 0) (SQ25 false m_2 m_3 mask_2 mask_3 (fun cr_5 nsr_5 => (SQ40 cr_5 nsr_5 (fun nr_7 => ((decide ((List.length (b5 ++ [(IntKind.wrap .u32 nr_7)])) * 4 <= 140737488355328)) && (SQ18 32 m_2 m_3 (fun cr_6 nsr_6 => (K (cr_6, nsr_6, (b5 ++ [(IntKind.wrap .u32 nr_7)])))))))))) (e0 b5))))

def GQ15 (N : Nat) (SQ22 : TSQ22) (SQ2 : TSQ2) (SQ39 : TSQ39) (SQ61 : TSQ61) (SQ38 : TSQ38) (SQ25 : TSQ25) (SQ40 : TSQ40) (SQ18 : TSQ18) (x : Int) (b : Bool) (b_1 : List Int) (k0 : Bool -> Int -> Int -> Bool) (k1 : Bool -> Int -> Int -> List Int -> Bool) : Bool :=
  (SQ22 x b b_1 (fun nr cr nsr => (SQ2 cr nsr (fun nr_1 => (cond (nr_1 == 0) (k0 false 0 0) (SQ39 cr nsr (fun nr_2 => (cond ((decide (nr_2 > 65536)) == false) (cond ((decide (nr > 100000)) == false) (cond (decide (nr < (-100000))) (k0 false 0 2) (SQ2 cr nsr (fun nr_3 => (SQ61 4294967295 (fun cr_1 nsr_1 => (SQ38 false cr nsr (fun cr_2 nsr_2 => (iterG N (stQ186 N SQ22 SQ2 SQ39 SQ61 SQ38 SQ25 SQ40 SQ18 b b_1 false 0 (decide (nr_3 < 0)) nr cr_1 nsr_1 (fun b3 => (k1 (decide (nr_3 < 0)) nr 0 b3))) (cr_2, nsr_2, []))))))))) (k0 false 0 2)) (k0 false 0 2)))))))))

def sQ15 (N : Nat) : TSQ15 := GQ15 N (sQ22 N) (sQ2 N) (sQ39 N) (sQ61 N) (sQ38 N) (sQ25 N) (sQ40 N) (sQ18 N)

abbrev TSQ85 : Type := List Fl -> List Fl -> (Bool -> Int -> Int -> Bool) -> (Bool -> Int -> Int -> List Int -> Bool) -> Bool

def st_dyad_Dot_0 (N : Nat) (SQ69 : TSQ69) (SQ146 : TSQ146) (SQ19 : TSQ19) (SQ21 : TSQ21) (SQ3 : TSQ3) (SQ15 : TSQ15) (b_2 t26_1 : List Fl) (t27_1 : Int) (t4_2 : Bool) (t4_3 : Int) (e0 : Int -> Bool -> List Int -> Bool) : (Int × Int × Bool × List Int) -> ((Int × Int × Bool × List Int) -> Bool) -> Bool := fun v_ K => match v_ with
  | (t28_1, s_1, b2_1, b2_2) => (cond (decide (t28_1 < t27_1)) ((inR t28_1 (List.length t26_1)) && (SQ146 (List.getD t26_1 (Int.toNat t28_1) none) (fun nr_3 cr_5 nsr_4 => ((inR t28_1 (List.length b_2)) && (SQ146 (List.getD b_2 (Int.toNat t28_1) none) (fun nr_4 cr_6 nsr_5 => (SQ19 nr_3 nr_4 cr_5 nsr_4 cr_6 nsr_5 (fun nr_5 cr_7 nsr_6 => (SQ3 s_1 nr_5 b2_1 b2_2 cr_7 nsr_6 ((fits .i64 (t28_1 + 1)) && (K ((t28_1 + 1), nr_5, cr_7, nsr_6))) ((fits .i64 (t28_1 + 1)) && (K ((t28_1 + 1), s_1, b2_1, b2_2))) (fun nr_6 cr_8 nsr_7 => ((fits .i64 (t28_1 + 1)) && (K ((t28_1 + 1), nr_6, cr_8, nsr_7))))))))))))) (e0 s_1 b2_1 b2_2))

def GQ85 (N : Nat) (SQ69 : TSQ69) (SQ146 : TSQ146) (SQ19 : TSQ19) (SQ21 : TSQ21) (SQ3 : TSQ3) (SQ15 : TSQ15) (a b : List Fl) (k0 : Bool -> Int -> Int -> Bool) (k1 : Bool -> Int -> Int -> List Int -> Bool) : Bool :=
  (cond ((((List.length a) : Nat) : Int) != (((List.length b) : Nat) : Int)) (k0 false 0 3) (SQ69 a (fun cr => (cond ((!cr) == false) (SQ69 b (fun cr_1 => (cond (!cr_1) (k0 false 0 4) (iterG N (st_dyad_Dot_0 N SQ69 SQ146 SQ19 SQ21 SQ3 SQ15 b a (((List.length a) : Nat) : Int) false 0 (fun s_2 b2_3 b2_4 => (SQ15 s_2 b2_3 b2_4 (fun cr_9 nr_7 nr_8 => (k0 cr_9 nr_7 nr_8)) (fun cr_10 nr_9 nr_10 nsr_8 => (k1 cr_10 nr_9 nr_10 nsr_8))))) (0, 0, false, []))))) (k0 false 0 4)))))

def sQ85 (N : Nat) : TSQ85 := GQ85 N (sQ69 N) (sQ146 N) (sQ19 N) (sQ21 N) (sQ3 N) (sQ15 N)

abbrev TSQ122 : Type := Bool -> List Int -> Int -> (Bool -> Bool) -> Bool

def GQ122 (N : Nat) (d_0 : Bool) (d_1 : List Int) (d_2 : Int) (k0 : Bool -> Bool) : Bool :=
  (cond ((((List.length d_1) : Nat) : Int) == 0) (cond ((!d_0) == true) (k0 (d_2 == 0)) (k0 false)) (cond ((decide ((((List.length d_1) : Nat) : Int) <= 2048)) == true) ((fits .i64 ((((List.length d_1) : Nat) : Int) - 1)) && ((inR ((((List.length d_1) : Nat) : Int) - 1) (List.length d_1)) && (cond (((List.getD d_1 (Int.toNat ((((List.length d_1) : Nat) : Int) - 1)) 0) != 0) == true) ((inR 0 (List.length d_1)) && (cond (((Int.tmod (List.getD d_1 0 0) 2) == 1) == true) (cond ((decide (d_2 >= (-100000))) == true) (k0 (decide (d_2 <= 100000))) (k0 false)) (k0 false))) (k0 false)))) (k0 false)))

def sQ122 (N : Nat) : TSQ122 := GQ122 N

abbrev TSQ47 : Type := Int -> Bool -> (Bool -> List Int -> Bool) -> Bool

def GQ47 (N : Nat) (SQ103 : TSQ103) (SQ0 : TSQ0) (n : Int) (b : Bool) (k0 : Bool -> List Int -> Bool) : Bool :=
  (SQ103 [] n (fun nsr => (SQ0 b nsr b (fun cr => (k0 cr nsr)))))

def sQ47 (N : Nat) : TSQ47 := GQ47 N (sQ103 N) (sQ0 N)

abbrev TSQ46 : Type := Bool -> Nat -> Nat -> Bool -> List Int -> List Int -> (Bool -> Bool) -> Bool

def GQ46 (N : Nat) (neg : Bool) (abs_0 abs_1 : Nat) (b : Bool) (b_1 b_2 : List Int) (k0 : Bool -> Bool) : Bool :=
  (cond (neg == true) (k0 (decide (((abs_1 : Nat) : Int) > 0))) (k0 false))

def sQ46 (N : Nat) : TSQ46 := GQ46 N

abbrev TSQ33 : Type := Bool -> List Int -> Bool -> List Int -> (Bool -> List Int -> Bool) -> Bool

def stQ187 (N : Nat) (SQ20 : TSQ20) (SQ1 : TSQ1) (SQ46 : TSQ46) (t22 : Int) (z : Bool) (z_1 : List Int) (y : Bool) (y_1 : List Int) (e0 : List Int -> Bool) : (Int × List Int) -> ((Int × List Int) -> Bool) -> Bool := fun v_ K => match v_ with
  | (t23, r) => (cond (decide (t23 < t22)) (SQ20 z_1 t23 (fun nr => (SQ20 y_1 t23 (fun nr_1 => ((inR t23 (List.length r)) && ((decide ((Int.toNat t23) < (List.length r))) && ((fits .i64 (t23 + 1)) && (K ((t23 + 1), (List.set r (Int.toNat t23) (bitsN .or .u64 nr nr_1))))))))))) (e0 r))

def GQ33 (N : Nat) (SQ20 : TSQ20) (SQ1 : TSQ1) (SQ46 : TSQ46) (b : Bool) (b_1 : List Int) (b_2 : Bool) (b_3 : List Int) (k0 : Bool -> List Int -> Bool) : Bool :=
  ((mkOk 8 (imm true (((List.length b_1) : Nat) : Int) (((List.length b_3) : Nat) : Int)) (imm true (((List.length b_1) : Nat) : Int) (((List.length b_3) : Nat) : Int))) && (iterG N (stQ187 N SQ20 SQ1 SQ46 (((List.length (List.replicate (Int.toNat (imm true (((List.length b_1) : Nat) : Int) (((List.length b_3) : Nat) : Int))) (0 : Int))) : Nat) : Int) b b_1 b_2 b_3 (fun r_1 => (SQ1 r_1 (fun mr mr_1 => (SQ46 false mr mr_1 b b_1 r_1 (fun cr => ((decide ((mr + mr_1) <= (List.length r_1))) && (k0 cr (List.take mr_1 (List.drop mr r_1)))))))))) (0, (List.replicate (Int.toNat (imm true (((List.length b_1) : Nat) : Int) (((List.length b_3) : Nat) : Int))) (0 : Int)))))

def sQ33 (N : Nat) : TSQ33 := GQ33 N (sQ20 N) (sQ1 N) (sQ46 N)

abbrev TSQ48 : Type := Int -> Bool -> List Int -> (Bool -> List Int -> Bool) -> Bool

def GQ48 (N : Nat) (SQ103 : TSQ103) (SQ35 : TSQ35) (n : Int) (b : Bool) (b_1 : List Int) (k0 : Bool -> List Int -> Bool) : Bool :=
  (SQ103 b_1 n (fun nsr => (SQ35 b nsr b b_1 (fun cr => (k0 cr nsr)))))

def sQ48 (N : Nat) : TSQ48 := GQ48 N (sQ103 N) (sQ35 N)

abbrev TSQ107 : Type := Bool -> List Int -> Int -> (Bool -> List Int -> Bool) -> Bool

def st_dyad_take_0 (N : Nat) (SQ47 : TSQ47) (SQ61 : TSQ61) (SQ33 : TSQ33) (SQ48 : TSQ48) (SQ27 : TSQ27) (d_3 : Bool) (d_4 : List Int) (d_5 : Int) (t2_2 : Value) (t2_3 : Int) (e0 : Bool -> List Int -> Bool) : (Int × Bool × List Int) -> ((Int × Bool × List Int) -> Bool) -> Bool := fun v_ K => match v_ with
  | (i_1, n_1, n_2) => (cond (decide (i_1 >= 0)) (SQ48 32 n_1 n_2 (fun cr_3 nsr_3 => ((inR i_1 (List.length d_4)) && ((fits .i64 (List.getD d_4 (Int.toNat i_1) 0)) && (SQ61 (List.getD d_4 (Int.toNat i_1) 0) (fun cr_4 nsr_4 => (SQ33 cr_3 nsr_3 cr_4 nsr_4 (fun cr_5 nsr_5 => ((fits .i64 (i_1 - 1)) && (K ((i_1 - 1), cr_5, nsr_5))))))))))) (e0 n_1 n_2))

def GQ107 (N : Nat) (SQ47 : TSQ47) (SQ61 : TSQ61) (SQ33 : TSQ33) (SQ48 : TSQ48) (SQ27 : TSQ27) (d_0 : Bool) (d_1 : List Int) (d_2 : Int) (k0 : Bool -> List Int -> Bool) : Bool :=
  ((fits .i64 ((((List.length d_1) : Nat) : Int) - 1)) && (iterG N (st_dyad_take_0 N SQ47 SQ61 SQ33 SQ48 SQ27 d_0 d_1 d_2 (.pointer none) 0 (fun n_3 n_4 => (cond d_0 (SQ27 n_3 n_4 (fun cr_6 nsr_6 => (k0 cr_6 nsr_6))) (k0 n_3 n_4)))) (((((List.length d_1) : Nat) : Int) - 1), false, [])))

def sQ107 (N : Nat) : TSQ107 := GQ107 N (sQ47 N) (sQ61 N) (sQ33 N) (sQ48 N) (sQ27 N)

abbrev TSQ44 : Type := Bool -> Bool -> List Int -> (Bool -> List Int -> Bool) -> Bool

def GQ44 (N : Nat) (SQ77 : TSQ77) (SQ0 : TSQ0) (b b_1 : Bool) (b_2 : List Int) (k0 : Bool -> List Int -> Bool) : Bool :=
  (SQ77 b_2 (fun nsr => (SQ0 (!b_1) nsr b (fun cr => (k0 cr nsr)))))

def sQ44 (N : Nat) : TSQ44 := GQ44 N (sQ77 N) (sQ0 N)

abbrev TSQ70 : Type := Int -> Int -> Bool -> List Int -> Bool -> List Int -> (Int -> Bool -> List Int -> Bool) -> (Bool) -> Bool

def GQ70 (N : Nat) (SQ44 : TSQ44) (SQ3 : TSQ3) (x y : Int) (b : Bool) (b_1 : List Int) (b_2 : Bool) (b_3 : List Int) (k0 : Int -> Bool -> List Int -> Bool) (k1 : Bool) : Bool :=
  (SQ44 false b_2 b_3 (fun cr nsr => (SQ3 x y b b_1 cr nsr (k0 y cr nsr) k1 (fun nr cr_1 nsr_1 => (k0 nr cr_1 nsr_1)))))

def sQ70 (N : Nat) : TSQ70 := GQ70 N (sQ44 N) (sQ3 N)

abbrev TSQ117 : Type := Bool -> List Int -> Int -> Bool -> List Int -> Int -> (Bool -> Int -> Int -> Bool) -> (Bool -> Int -> Int -> List Int -> Bool) -> Bool

def GQ117 (N : Nat) (SQ122 : TSQ122) (SQ107 : TSQ107) (SQ70 : TSQ70) (SQ15 : TSQ15) (a_0 : Bool) (a_1 : List Int) (a_2 : Int) (b_0 : Bool) (b_1 : List Int) (b_2 : Int) (k0 : Bool -> Int -> Int -> Bool) (k1 : Bool -> Int -> Int -> List Int -> Bool) : Bool :=
  (SQ122 a_0 a_1 a_2 (fun cr => (cond ((!cr) == false) (SQ122 b_0 b_1 b_2 (fun cr_1 => (cond (!cr_1) (k0 false 0 30) (SQ107 a_0 a_1 a_2 (fun cr_2 nsr => (SQ107 b_0 b_1 b_2 (fun cr_3 nsr_1 => (SQ70 a_2 b_2 cr_2 nsr cr_3 nsr_1 (fun nr cr_4 nsr_2 => (SQ15 nr cr_4 nsr_2 (fun cr_5 nr_1 nr_2 => (k0 cr_5 nr_1 nr_2)) (fun cr_6 nr_3 nr_4 nsr_3 => (k1 cr_6 nr_3 nr_4 nsr_3)))) (SQ15 a_2 cr_2 nsr (fun cr_7 nr_5 nr_6 => (k0 cr_7 nr_5 nr_6)) (fun cr_8 nr_7 nr_8 nsr_4 => (k1 cr_8 nr_7 nr_8 nsr_4))))))))))) (k0 false 0 30))))

def sQ117 (N : Nat) : TSQ117 := GQ117 N (sQ122 N) (sQ107 N) (sQ70 N) (sQ15 N)

abbrev TSQ86 : Type := Bool -> List Int -> Int -> Bool -> List Int -> Int -> (Bool -> Int -> Int -> Bool) -> (Bool -> Int -> Int -> List Int -> Bool) -> Bool

def GQ86 (N : Nat) (SQ117 : TSQ117) (a_0 : Bool) (a_1 : List Int) (a_2 : Int) (b_0 : Bool) (b_1 : List Int) (b_2 : Int) (k0 : Bool -> Int -> Int -> Bool) (k1 : Bool -> Int -> Int -> List Int -> Bool) : Bool :=
  (SQ117 a_0 a_1 a_2 b_0 b_1 b_2 (fun cr nr nr_1 => (k0 cr nr nr_1)) (fun cr_1 nr_2 nr_3 nsr => (k1 cr_1 nr_2 nr_3 nsr)))

def sQ86 (N : Nat) : TSQ86 := GQ86 N (sQ117 N)

abbrev TSQ41 : Type := Bool -> List Int -> Int -> Bool -> List Int -> Int -> (Int -> Int -> Bool) -> Bool

def GQ41 (N : Nat) (SQ122 : TSQ122) (SQ107 : TSQ107) (SQ44 : TSQ44) (SQ3 : TSQ3) (SQ2 : TSQ2) (a_0 : Bool) (a_1 : List Int) (a_2 : Int) (b_0 : Bool) (b_1 : List Int) (b_2 : Int) (k0 : Int -> Int -> Bool) : Bool :=
  (SQ122 a_0 a_1 a_2 (fun cr => (cond ((!cr) == false) (SQ122 b_0 b_1 b_2 (fun cr_1 => (cond (!cr_1) (k0 0 30) (SQ107 a_0 a_1 a_2 (fun cr_2 nsr => (SQ107 b_0 b_1 b_2 (fun cr_3 nsr_1 => (SQ44 false cr_3 nsr_1 (fun cr_4 nsr_2 => (SQ3 a_2 b_2 cr_2 nsr cr_4 nsr_2 (SQ2 cr_4 nsr_2 (fun nr => (k0 nr 0))) (SQ2 cr_2 nsr (fun nr_1 => (k0 nr_1 0))) (fun nr_2 cr_5 nsr_3 => (SQ2 cr_5 nsr_3 (fun nr_3 => (k0 nr_3 0)))))))))))))) (k0 0 30))))

def sQ41 (N : Nat) : TSQ41 := GQ41 N (sQ122 N) (sQ107 N) (sQ44 N) (sQ3 N) (sQ2 N)

abbrev TSQ92 : Type := Fl -> Fl -> Fl -> Fl -> (Bool -> Bool) -> Bool

def JQ200 (N : Nat) (SQ17 : TSQ17) (SQ26 : TSQ26) (SQ85 : TSQ85) (SQ86 : TSQ86) (SQ41 : TSQ41) (q_0 q_1 q_2 q_3 : Fl) (b7 : List Int) (off_6 : Bool) (off_7 : Int) (k0 : Bool -> Bool) : Bool :=
  (SQ41 false b7 off_7 false [1] (-48) (fun nr_18 nr_19 => (cond ((nr_19 == 0) == true) (k0 (decide (nr_18 <= 0))) (k0 false))))

def JQ199 (N : Nat) (SQ17 : TSQ17) (SQ26 : TSQ26) (SQ85 : TSQ85) (SQ86 : TSQ86) (SQ41 : TSQ41) (q_0 q_1 q_2 q_3 : Fl) (off_4 : Bool) (off_5 : Int) (k0 : Bool -> Bool) : Bool :=
  (SQ41 false [] off_5 false [1] (-48) (fun nr_16 nr_17 => (cond ((nr_17 == 0) == true) (k0 (decide (nr_16 <= 0))) (k0 false))))

def JQ190 (N : Nat) (SQ17 : TSQ17) (SQ26 : TSQ26) (SQ85 : TSQ85) (SQ86 : TSQ86) (SQ41 : TSQ41) (q_0 q_1 q_2 q_3 : Fl) (b3 : List Int) (n_2 : Bool) (n_3 : Int) (k0 : Bool -> Bool) : Bool :=
  (SQ86 n_2 b3 n_3 false [1] 0 (fun cr_5 nr_12 nr_13 => (cond (nr_13 != 0) (k0 false) (JQ199 N SQ17 SQ26 SQ85 SQ86 SQ41 q_0 q_1 q_2 q_3 cr_5 nr_12 k0))) (fun cr_6 nr_14 nr_15 nsr_2 => (cond (nr_15 != 0) (k0 false) (JQ200 N SQ17 SQ26 SQ85 SQ86 SQ41 q_0 q_1 q_2 q_3 nsr_2 cr_6 nr_14 k0))))

def JQ198 (N : Nat) (SQ17 : TSQ17) (SQ26 : TSQ26) (SQ85 : TSQ85) (SQ86 : TSQ86) (SQ41 : TSQ41) (q_0 q_1 q_2 q_3 : Fl) (b6 : List Int) (off_2 : Bool) (off_3 : Int) (k0 : Bool -> Bool) : Bool :=
  (SQ41 false b6 off_3 false [1] (-48) (fun nr_10 nr_11 => (cond ((nr_11 == 0) == true) (k0 (decide (nr_10 <= 0))) (k0 false))))

def JQ197 (N : Nat) (SQ17 : TSQ17) (SQ26 : TSQ26) (SQ85 : TSQ85) (SQ86 : TSQ86) (SQ41 : TSQ41) (q_0 q_1 q_2 q_3 : Fl) (off : Bool) (off_1 : Int) (k0 : Bool -> Bool) : Bool :=
  (SQ41 false [] off_1 false [1] (-48) (fun nr_8 nr_9 => (cond ((nr_9 == 0) == true) (k0 (decide (nr_8 <= 0))) (k0 false))))

def JQ189 (N : Nat) (SQ17 : TSQ17) (SQ26 : TSQ26) (SQ85 : TSQ85) (SQ86 : TSQ86) (SQ41 : TSQ41) (q_0 q_1 q_2 q_3 : Fl) (n : Bool) (n_1 : Int) (k0 : Bool -> Bool) : Bool :=
  (SQ86 n [] n_1 false [1] 0 (fun cr_3 nr_4 nr_5 => (cond (nr_5 != 0) (k0 false) (JQ197 N SQ17 SQ26 SQ85 SQ86 SQ41 q_0 q_1 q_2 q_3 cr_3 nr_4 k0))) (fun cr_4 nr_6 nr_7 nsr_1 => (cond (nr_7 != 0) (k0 false) (JQ198 N SQ17 SQ26 SQ85 SQ86 SQ41 q_0 q_1 q_2 q_3 nsr_1 cr_4 nr_6 k0))))

def GQ92 (N : Nat) (SQ17 : TSQ17) (SQ26 : TSQ26) (SQ85 : TSQ85) (SQ86 : TSQ86) (SQ41 : TSQ41) (q_0 q_1 q_2 q_3 : Fl) (k0 : Bool -> Bool) : Bool :=
  (SQ17 q_0 q_1 q_2 q_3 (fun cr => (cond (!cr) (k0 false) (SQ26 q_0 q_1 q_2 q_3 (SQ85 [q_0, q_1, q_2, q_3] [q_0, q_1, q_2, q_3] (fun cr_1 nr nr_1 => (cond (nr_1 != 0) (k0 false) (JQ189 N SQ17 SQ26 SQ85 SQ86 SQ41 q_0 q_1 q_2 q_3 cr_1 nr k0))) (fun cr_2 nr_2 nr_3 nsr => (cond (nr_3 != 0) (k0 false) (JQ190 N SQ17 SQ26 SQ85 SQ86 SQ41 q_0 q_1 q_2 q_3 nsr cr_2 nr_2 k0))))))))

def sQ92 (N : Nat) : TSQ92 := GQ92 N (sQ17 N) (sQ26 N) (sQ85 N) (sQ86 N) (sQ41 N)

abbrev TSQ84 : Type := (Fl -> Fl -> Fl -> Fl -> Bool) -> Bool

def GQ84 (N : Nat) (k0 : Fl -> Fl -> Fl -> Fl -> Bool) : Bool :=
  (k0 (some 4611686018427387904) (some 0) (some 0) (some 0))

def sQ84 (N : Nat) : TSQ84 := GQ84 N

abbrev TSQ9 : Type := (Bool -> Bool) -> Bool

def GQ9 (N : Nat) (SQ13 : TSQ13) (SQ142 : TSQ142) (SQ123 : TSQ123) (SQ92 : TSQ92) (SQ84 : TSQ84) (k0 : Bool -> Bool) : Bool :=
  (SQ13 (some 0) (some 4613937818241073152) (some 4616189618054758400) (some 0) (fun xr xr_1 xr_2 xr_3 nr => (SQ142 (some 4602678819172646912) (some 4602678819172646912) (some 4602678819172646912) (some 4602678819172646912) (some 4607182418800017408) (some 4611686018427387904) (some 4613937818241073152) (fun xr_4 xr_5 xr_6 nr_1 => (SQ123 (some 0) (some 4607182418800017408) (some 0) (some 0) (some 0) (some 0) (some 4607182418800017408) (some 0) (fun xr_7 xr_8 xr_9 xr_10 nr_2 => (cond ((nr == 0) == true) (cond ((feq xr_1 (some 4603579539098121011)) == true) (cond ((feq xr_2 (some 4605380978949069210)) == true) (cond ((nr_1 == 0) == true) (cond ((feq xr_4 (some 4613937818241073152)) == true) (cond ((feq xr_5 (some 4607182418800017408)) == true) (cond ((feq xr_6 (some 4611686018427387904)) == true) (cond ((nr_2 == 0) == true) (cond ((feq xr_10 (some 4607182418800017408)) == true) (cond ((feq xr_7 (some 0)) == true) (SQ92 (some 4602678819172646912) (some 4602678819172646912) (some 4602678819172646912) (some 4602678819172646912) (fun cr => (cond (cr == true) (SQ84 (fun xr_11 xr_12 xr_13 xr_14 => (SQ92 xr_11 xr_12 xr_13 xr_14 (fun cr_1 => (k0 (!cr_1)))))) (k0 false)))) (k0 false)) (k0 false)) (k0 false)) (k0 false)) (k0 false)) (k0 false)) (k0 false)) (k0 false)) (k0 false)) (k0 false))))))))

def sQ9 (N : Nat) : TSQ9 := GQ9 N (sQ13 N) (sQ142 N) (sQ123 N) (sQ92 N) (sQ84 N)

abbrev TSQ11 : Type := Int -> (Fl -> Bool) -> Bool

def GQ11 (N : Nat) (SQ82 : TSQ82) (b : Int) (k0 : Fl -> Bool) : Bool :=
  (SQ82 b (fun xr => (k0 xr)))

def sQ11 (N : Nat) : TSQ11 := GQ11 N (sQ82 N)

abbrev TSQ5 : Type := Int -> Int -> Int -> Int -> (Fl -> Fl -> Fl -> Fl -> Bool) -> Bool

def GQ5 (N : Nat) (SQ11 : TSQ11) (q_0 q_1 q_2 q_3 : Int) (k0 : Fl -> Fl -> Fl -> Fl -> Bool) : Bool :=
  (SQ11 q_0 (fun xr => (SQ11 q_1 (fun xr_1 => (SQ11 q_2 (fun xr_2 => (SQ11 q_3 (fun xr_3 => (k0 xr xr_1 xr_2 xr_3)))))))))

def sQ5 (N : Nat) : TSQ5 := GQ5 N (sQ11 N)

abbrev TSQ128 : Type := Fl -> Fl -> Fl -> Fl -> (List Fl -> Bool) -> Bool

def GQ128 (N : Nat) (q_0 q_1 q_2 q_3 : Fl) (k0 : List Fl -> Bool) : Bool :=
  (k0 [q_0, q_1, q_2, q_3])

def sQ128 (N : Nat) : TSQ128 := GQ128 N

abbrev TSQ162 : Type := Fl -> (Int -> Bool) -> Bool

def GQ162 (N : Nat) (SQ114 : TSQ114) (x : Fl) (k0 : Int -> Bool) : Bool :=
  (cond (!feq x x) (k0 9221120237041090561) (SQ114 x (fun nr => (k0 nr))))

def sQ162 (N : Nat) : TSQ162 := GQ162 N (sQ114 N)

abbrev TSQ90 : Type := Fl -> (Bool -> Int -> Int -> Bool) -> Bool

def GQ90 (N : Nat) (SQ162 : TSQ162) (x : Fl) (k0 : Bool -> Int -> Int -> Bool) : Bool :=
  (SQ162 x (fun nr => ((fits .i64 (Int.tmod (Int.fdiv nr (2 ^ 52)) 2048)) && (k0 ((Int.fdiv nr (2 ^ 63)) == 1) (Int.tmod (Int.fdiv nr (2 ^ 52)) 2048) (Int.tmod nr 4503599627370496)))))

def sQ90 (N : Nat) : TSQ90 := GQ90 N (sQ162 N)

abbrev TSQ109 : Type := Int -> Int -> Int -> (Int -> Bool) -> Bool

def GQ109 (N : Nat) (exp frac most : Int) (k0 : Int -> Bool) : Bool :=
  (cond ((exp == most) == true) (cond (frac != 0) (k0 1) (cond (exp == most) (k0 2) (cond ((exp == 0) == true) (cond (frac == 0) (k0 3) (cond (exp == 0) (k0 4) (k0 5))) (cond (exp == 0) (k0 4) (k0 5))))) (cond (exp == most) (k0 2) (cond ((exp == 0) == true) (cond (frac == 0) (k0 3) (cond (exp == 0) (k0 4) (k0 5))) (cond (exp == 0) (k0 4) (k0 5)))))

def sQ109 (N : Nat) : TSQ109 := GQ109 N

abbrev TSQ140 : Type := Fl -> (Int -> Bool) -> Bool

def GQ140 (N : Nat) (SQ90 : TSQ90) (SQ109 : TSQ109) (x : Fl) (k0 : Int -> Bool) : Bool :=
  (SQ90 x (fun cr nr nr_1 => (SQ109 nr nr_1 2047 (fun nr_2 => (k0 nr_2)))))

def sQ140 (N : Nat) : TSQ140 := GQ140 N (sQ90 N) (sQ109 N)

abbrev TSQ99 : Type := Fl -> (Bool -> Bool) -> Bool

def GQ99 (N : Nat) (SQ140 : TSQ140) (x : Fl) (k0 : Bool -> Bool) : Bool :=
  (SQ140 x (fun nr => (k0 (decide (nr > 2)))))

def sQ99 (N : Nat) : TSQ99 := GQ99 N (sQ140 N)

abbrev TSQ91 : Type := List Fl -> (Bool -> Bool) -> Bool

def stQ202 (N : Nat) (SQ99 : TSQ99) (t5 : List Fl) (t6 : Int) (e0 : Bool -> Bool) (e1 : Bool) : (Int) -> ((Int) -> Bool) -> Bool := fun v_ K => match v_ with
  | t7 => (cond (decide (t7 < t6)) ((inR t7 (List.length t5)) && (SQ99 (List.getD t5 (Int.toNat t7) none) (fun cr => (cond (!cr) (e0 false) ((fits .i64 (t7 + 1)) && (K (t7 + 1))))))) e1)

def GQ91 (N : Nat) (SQ99 : TSQ99) (l : List Fl) (k0 : Bool -> Bool) : Bool :=
  (iterG N (stQ202 N SQ99 l (((List.length l) : Nat) : Int) (fun t2 => (k0 t2)) (k0 true)) 0)

def sQ91 (N : Nat) : TSQ91 := GQ91 N (sQ99 N)

abbrev TSQ132 : Type := Fl -> Fl -> Fl -> Fl -> (Bool -> Bool) -> Bool

def GQ132 (N : Nat) (SQ128 : TSQ128) (SQ91 : TSQ91) (q_0 q_1 q_2 q_3 : Fl) (k0 : Bool -> Bool) : Bool :=
  (SQ128 q_0 q_1 q_2 q_3 (fun xsr => (SQ91 xsr (fun cr => (k0 cr)))))

def sQ132 (N : Nat) : TSQ132 := GQ132 N (sQ128 N) (sQ91 N)

abbrev TSQ125 : Type := (Int -> Bool -> Bool) -> Bool

def GQ125 (N : Nat) (k0 : Int -> Bool -> Bool) : Bool :=
  (k0 0 false)

def sQ125 (N : Nat) : TSQ125 := GQ125 N

abbrev TSQ139 : Type := Int -> Int -> (Int -> Int -> Bool) -> Bool

def st_z01_odd_0 (N : Nat) (e0 : Int -> Int -> Bool) : (Int × Int) -> ((Int × Int) -> Bool) -> Bool := fun v_ K => match v_ with
  | (m_1, e_1) => (cond ((Int.tmod m_1 2) == 0) ((fits .i64 (e_1 + 1)) && (K ((IntKind.wrap .u64 (Int.tdiv m_1 2)), (e_1 + 1)))) (e0 m_1 e_1))

def GQ139 (N : Nat) (m e : Int) (k0 : Int -> Int -> Bool) : Bool :=
  (cond (m == 0) (k0 0 0) (iterG N (st_z01_odd_0 N (fun m_2 e_2 => (k0 m_2 e_2))) (m, e)))

def sQ139 (N : Nat) : TSQ139 := GQ139 N

abbrev TSQ134 : Type := Fl -> (Bool -> Int -> Int -> Int -> Bool) -> Bool

def JQ191 (N : Nat) (SQ90 : TSQ90) (SQ139 : TSQ139) (x : Fl) (neg : Bool) (e f : Int) (k0 : Bool -> Int -> Int -> Int -> Bool) : Bool :=
  ((fits .i64 (e - 1074)) && (SQ139 f (e - 1074) (fun nr_2 nr_3 => (k0 neg nr_2 nr_3 0))))

def GQ134 (N : Nat) (SQ90 : TSQ90) (SQ139 : TSQ139) (x : Fl) (k0 : Bool -> Int -> Int -> Int -> Bool) : Bool :=
  (SQ90 x (fun cr nr nr_1 => (cond (nr == 2047) (k0 false 0 0 4) (cond (decide (nr > 0)) ((fits .i64 (nr - 1)) && (JQ191 N SQ90 SQ139 x cr (nr - 1) (IntKind.wrap .u64 (nr_1 + 4503599627370496)) k0)) (JQ191 N SQ90 SQ139 x cr nr nr_1 k0)))))

def sQ134 (N : Nat) : TSQ134 := GQ134 N (sQ90 N) (sQ139 N)

abbrev TSQ16 : Type := List Int -> (Nat -> Nat -> Bool) -> Bool

def stQ201 (N m_1 : Nat) (m_3 : List Int) (e0 : Nat -> Bool) : (Nat) -> ((Nat) -> Bool) -> Bool := fun v_ K => match v_ with
  | m_2 => (cond ((decide (((m_2 : Nat) : Int) > 0)) == true) ((fits .i64 (((m_2 : Nat) : Int) - 1)) && ((inR (((m_2 : Nat) : Int) - 1) m_2) && ((decide ((m_1 + (Int.toNat (((m_2 : Nat) : Int) - 1))) < (List.length m_3))) && (cond ((List.getD m_3 (m_1 + (Int.toNat (((m_2 : Nat) : Int) - 1))) 0) == 0) ((fits .i64 (((m_2 : Nat) : Int) - 1)) && ((decide (0 <= (((m_2 : Nat) : Int) - 1) /\ (((m_2 : Nat) : Int) - 1) <= ((m_2 : Nat) : Int))) && (K ((Int.toNat (((m_2 : Nat) : Int) - 1)) - 0)))) (e0 m_2))))) (e0 m_2))

def GQ16 (N : Nat) (b : List Int) (k0 : Nat -> Nat -> Bool) : Bool :=
  (iterG N (stQ201 N 0 b (fun m_4 => (k0 0 m_4))) (List.length b))

def sQ16 (N : Nat) : TSQ16 := GQ16 N

abbrev TSQ113 : Type := Int -> (List Int -> Bool) -> Bool

def GQ113 (N : Nat) (SQ16 : TSQ16) (n : Int) (k0 : List Int -> Bool) : Bool :=
  (SQ16 [(IntKind.wrap .u32 n), (IntKind.wrap .u32 (Int.fdiv n (2 ^ 32)))] (fun mr mr_1 => ((decide ((mr + mr_1) <= (List.length [(IntKind.wrap .u32 n), (IntKind.wrap .u32 (Int.fdiv n (2 ^ 32)))]))) && (k0 (List.take mr_1 (List.drop mr [(IntKind.wrap .u32 n), (IntKind.wrap .u32 (Int.fdiv n (2 ^ 32)))]))))))

def sQ113 (N : Nat) : TSQ113 := GQ113 N (sQ16 N)

abbrev TSQ167 : Type := List Int -> (List Int -> Bool) -> Bool

def st_z00_cut_0 (N : Nat) (e0 : List Int -> Bool) : (List Int) -> ((List Int) -> Bool) -> Bool := fun v_ K => match v_ with
  | m_1 => (cond ((decide ((((List.length m_1) : Nat) : Int) > 0)) == true) ((fits .i64 ((((List.length m_1) : Nat) : Int) - 1)) && ((inR ((((List.length m_1) : Nat) : Int) - 1) (List.length m_1)) && (cond ((List.getD m_1 (Int.toNat ((((List.length m_1) : Nat) : Int) - 1)) 0) == 0) ((fits .i64 ((((List.length m_1) : Nat) : Int) - 1)) && ((decide (0 <= ((((List.length m_1) : Nat) : Int) - 1) /\ ((((List.length m_1) : Nat) : Int) - 1) <= (((List.length m_1) : Nat) : Int))) && (K (List.drop 0 (List.take (Int.toNat ((((List.length m_1) : Nat) : Int) - 1)) m_1))))) (e0 m_1)))) (e0 m_1))

def GQ167 (N : Nat) (m : List Int) (k0 : List Int -> Bool) : Bool :=
  (iterG N (st_z00_cut_0 N (fun m_2 => (k0 m_2))) m)

def sQ167 (N : Nat) : TSQ167 := GQ167 N

abbrev TSQ51 : Type := Bool -> List Int -> Bool -> (Bool -> List Int -> Bool) -> Bool

def GQ51 (N : Nat) (SQ167 : TSQ167) (neg : Bool) (m : List Int) (b : Bool) (k0 : Bool -> List Int -> Bool) : Bool :=
  (SQ167 m (fun nsr => (cond (neg == true) (k0 (decide ((((List.length nsr) : Nat) : Int) > 0)) nsr) (k0 false nsr))))

def sQ51 (N : Nat) : TSQ51 := GQ51 N (sQ167 N)

abbrev TSQ75 : Type := Int -> Bool -> (Bool -> List Int -> Bool) -> Bool

def GQ75 (N : Nat) (SQ113 : TSQ113) (SQ51 : TSQ51) (n : Int) (b : Bool) (k0 : Bool -> List Int -> Bool) : Bool :=
  (SQ113 n (fun nsr => (SQ51 false nsr b (fun cr nsr_1 => (k0 cr nsr_1)))))

def sQ75 (N : Nat) : TSQ75 := GQ75 N (sQ113 N) (sQ51 N)

abbrev TSQ110 : Type := Bool -> Bool -> List Int -> List Int -> (Bool -> Nat -> Nat -> Bool) -> Bool

def GQ110 (N : Nat) (SQ16 : TSQ16) (neg b : Bool) (b_1 b_2 : List Int) (k0 : Bool -> Nat -> Nat -> Bool) : Bool :=
  (SQ16 b_2 (fun mr mr_1 => (cond (neg == true) (k0 (decide (((mr_1 : Nat) : Int) > 0)) mr mr_1) (k0 false mr mr_1))))

def sQ110 (N : Nat) : TSQ110 := GQ110 N (sQ16 N)

abbrev TSQ106 : Type := Bool -> List Int -> (Bool -> List Int -> Bool) -> Bool

def GQ106 (N : Nat) (SQ110 : TSQ110) (b : Bool) (b_1 : List Int) (k0 : Bool -> List Int -> Bool) : Bool :=
  ((decide ((List.length ([] ++ b_1)) * 4 <= 140737488355328)) && (SQ110 (!b) b b_1 ([] ++ b_1) (fun cr mr mr_1 => ((decide ((mr + mr_1) <= (List.length ([] ++ b_1)))) && (k0 cr (List.take mr_1 (List.drop mr ([] ++ b_1))))))))

def sQ106 (N : Nat) : TSQ106 := GQ106 N (sQ110 N)

abbrev TSQ166 : Type := Fl -> (Int -> Bool -> List Int -> Bool) -> Bool

def GQ166 (N : Nat) (SQ134 : TSQ134) (SQ75 : TSQ75) (SQ106 : TSQ106) (x : Fl) (k0 : Int -> Bool -> List Int -> Bool) : Bool :=
  (SQ134 x (fun cr nr nr_1 nr_2 => (SQ75 nr false (fun cr_1 nsr => (cond cr (SQ106 cr_1 nsr (fun cr_2 nsr_1 => (k0 nr_1 cr_2 nsr_1))) (k0 nr_1 cr_1 nsr))))))

def sQ166 (N : Nat) : TSQ166 := GQ166 N (sQ134 N) (sQ75 N) (sQ106 N)

abbrev TSQ131 : Type := List Int -> List Int -> (List Int -> Bool) -> Bool

def st_z00_times_2 (N : Nat) (SQ16 : TSQ16) (a_2 b_2 : List Int) (i_1 : Int) (e0 : Int -> List Int -> Bool) : (Int × Int × List Int) -> ((Int × Int × List Int) -> Bool) -> Bool := fun v_ K => match v_ with
  | (carry, k_, out_1) => (cond (decide (k_ < (((List.length b_2) : Nat) : Int))) ((inR i_1 (List.length a_2)) && ((inR k_ (List.length b_2)) && ((fits .i64 (i_1 + k_)) && ((inR (i_1 + k_) (List.length out_1)) && ((decide ((Int.toNat (i_1 + k_)) < (List.length out_1))) && ((fits .i64 (i_1 + k_)) && ((inR (i_1 + k_) (List.length out_1)) && ((decide ((Int.toNat (i_1 + k_)) < (List.length out_1))) && ((fits .i64 (k_ + 1)) && (K ((Int.fdiv (IntKind.wrap .u64 ((IntKind.wrap .u64 ((IntKind.wrap .u64 ((IntKind.wrap .u64 (List.getD a_2 (Int.toNat i_1) 0)) * (IntKind.wrap .u64 (List.getD b_2 (Int.toNat k_) 0)))) + (IntKind.wrap .u64 (List.getD out_1 (Int.toNat (i_1 + k_)) 0)))) + carry)) (2 ^ 32)), (k_ + 1), (List.set out_1 (Int.toNat (i_1 + k_)) (IntKind.wrap .u32 (IntKind.wrap .u64 ((IntKind.wrap .u64 ((IntKind.wrap .u64 ((IntKind.wrap .u64 (List.getD a_2 (Int.toNat i_1) 0)) * (IntKind.wrap .u64 (List.getD b_2 (Int.toNat k_) 0)))) + (IntKind.wrap .u64 (List.getD out_1 (Int.toNat (i_1 + k_)) 0)))) + carry))))))))))))))) (e0 carry out_1))

def st_z00_times_0 (N : Nat) (SQ16 : TSQ16) (a_1 b_1 : List Int) (e0 : List Int -> Bool) : (Int × List Int) -> ((Int × List Int) -> Bool) -> Bool := fun v_ K => match v_ with
  | (i, out) => (cond (decide (i < (((List.length a_1) : Nat) : Int))) (iterG N (st_z00_times_2 N SQ16 a_1 b_1 i (fun carry_1 out_2 => ((fits .i64 (i + (((List.length b_1) : Nat) : Int))) && ((inR (i + (((List.length b_1) : Nat) : Int)) (List.length out_2)) && ((decide ((Int.toNat (i + (((List.length b_1) : Nat) : Int))) < (List.length out_2))) && ((fits .i64 (i + 1)) && (K ((i + 1), (List.set out_2 (Int.toNat (i + (((List.length b_1) : Nat) : Int))) (IntKind.wrap .u32 carry_1)))))))))) (0, 0, out)) (e0 out))

def GQ131 (N : Nat) (SQ16 : TSQ16) (a b : List Int) (k0 : List Int -> Bool) : Bool :=
  ((fits .i64 ((((List.length a) : Nat) : Int) + (((List.length b) : Nat) : Int))) && ((mkOk 4 ((((List.length a) : Nat) : Int) + (((List.length b) : Nat) : Int)) ((((List.length a) : Nat) : Int) + (((List.length b) : Nat) : Int))) && (iterG N (st_z00_times_0 N SQ16 a b (fun out_3 => (SQ16 out_3 (fun mr mr_1 => ((decide ((mr + mr_1) <= (List.length out_3))) && (k0 (List.take mr_1 (List.drop mr out_3)))))))) (0, (List.replicate (Int.toNat ((((List.length a) : Nat) : Int) + (((List.length b) : Nat) : Int))) (0 : Int))))))

def sQ131 (N : Nat) : TSQ131 := GQ131 N (sQ16 N)

abbrev TSQ79 : Type := Bool -> Bool -> List Int -> Bool -> List Int -> (Bool -> List Int -> Bool) -> Bool

def GQ79 (N : Nat) (SQ131 : TSQ131) (SQ51 : TSQ51) (b b_1 : Bool) (b_2 : List Int) (b_3 : Bool) (b_4 : List Int) (k0 : Bool -> List Int -> Bool) : Bool :=
  (SQ131 b_2 b_4 (fun nsr => (SQ51 (b_1 != b_3) nsr b (fun cr nsr_1 => (k0 cr nsr_1)))))

def sQ79 (N : Nat) : TSQ79 := GQ79 N (sQ131 N) (sQ51 N)

abbrev TSQ24 : Type := Int -> Int -> Bool -> List Int -> Bool -> List Int -> (Int -> Bool -> List Int -> Bool) -> Bool

def GQ24 (N : Nat) (SQ79 : TSQ79) (x y : Int) (b : Bool) (b_1 : List Int) (b_2 : Bool) (b_3 : List Int) (k0 : Int -> Bool -> List Int -> Bool) : Bool :=
  (SQ79 false b b_1 b_2 b_3 (fun cr nsr => ((fits .i64 (x + y)) && (k0 (x + y) cr nsr))))

def sQ24 (N : Nat) : TSQ24 := GQ24 N (sQ79 N)

abbrev TSQ119 : Type := Bool -> (Int -> List Int -> Bool) -> Bool

def GQ119 (N : Nat) (b : Bool) (k0 : Int -> List Int -> Bool) : Bool :=
  (k0 0 [])

def sQ119 (N : Nat) : TSQ119 := GQ119 N

abbrev TSQ64 : Type := Bool -> List Int -> (Int -> Bool) -> Bool

def GQ64 (N : Nat) (b : Bool) (b_1 : List Int) (k0 : Int -> Bool) : Bool :=
  (cond ((((List.length b_1) : Nat) : Int) == 0) (k0 0) (cond b (k0 (-1)) (k0 1)))

def sQ64 (N : Nat) : TSQ64 := GQ64 N

abbrev TSQ152 : Type := List Int -> Int -> (List Int -> Bool) -> Bool

def st_z00_left_0 (N : Nat) (SQ16 : TSQ16) (m_1 : List Int) (w s : Int) (e0 : List Int -> Bool) : (Int × List Int) -> ((Int × List Int) -> Bool) -> Bool := fun v_ K => match v_ with
  | (i, out) => (cond (decide (i < (((List.length m_1) : Nat) : Int))) ((inR i (List.length m_1)) && ((decide (0 <= s)) && ((fits .i64 (w + i)) && ((inR (w + i) (List.length out)) && ((decide ((Int.toNat (w + i)) < (List.length out))) && ((inR (w + i) (List.length out)) && ((decide ((Int.toNat (w + i)) < (List.length out))) && ((fits .i64 (w + i)) && ((fits .i64 ((w + i) + 1)) && ((inR ((w + i) + 1) (List.length (List.set out (Int.toNat (w + i)) (bitsN .or .u32 (List.getD out (Int.toNat (w + i)) 0) (IntKind.wrap .u32 (IntKind.wrap .u64 ((IntKind.wrap .u64 (List.getD m_1 (Int.toNat i) 0)) * 2 ^ (min (Int.toNat s) 64)))))))) && ((decide ((Int.toNat ((w + i) + 1)) < (List.length (List.set out (Int.toNat (w + i)) (bitsN .or .u32 (List.getD out (Int.toNat (w + i)) 0) (IntKind.wrap .u32 (IntKind.wrap .u64 ((IntKind.wrap .u64 (List.getD m_1 (Int.toNat i) 0)) * 2 ^ (min (Int.toNat s) 64))))))))) && ((fits .i64 (i + 1)) && (K ((i + 1), (List.set (List.set out (Int.toNat (w + i)) (bitsN .or .u32 (List.getD out (Int.toNat (w + i)) 0) (IntKind.wrap .u32 (IntKind.wrap .u64 ((IntKind.wrap .u64 (List.getD m_1 (Int.toNat i) 0)) * 2 ^ (min (Int.toNat s) 64)))))) (Int.toNat ((w + i) + 1)) (IntKind.wrap .u32 (Int.fdiv (IntKind.wrap .u64 ((IntKind.wrap .u64 (List.getD m_1 (Int.toNat i) 0)) * 2 ^ (min (Int.toNat s) 64))) (2 ^ 32)))))))))))))))))) (e0 out))

def GQ152 (N : Nat) (SQ16 : TSQ16) (m : List Int) (n : Int) (k0 : List Int -> Bool) : Bool :=
  (cond ((((List.length m) : Nat) : Int) == 0) (k0 []) ((fits .i64 (IntKind.wrap .u64 (Int.tdiv n 32))) && ((fits .i64 ((IntKind.wrap .u64 (Int.tdiv n 32)) + (((List.length m) : Nat) : Int))) && ((fits .i64 (((IntKind.wrap .u64 (Int.tdiv n 32)) + (((List.length m) : Nat) : Int)) + 1)) && ((mkOk 4 (((IntKind.wrap .u64 (Int.tdiv n 32)) + (((List.length m) : Nat) : Int)) + 1) (((IntKind.wrap .u64 (Int.tdiv n 32)) + (((List.length m) : Nat) : Int)) + 1)) && (iterG N (st_z00_left_0 N SQ16 m (IntKind.wrap .u64 (Int.tdiv n 32)) (Int.tmod n 32) (fun out_1 => (SQ16 out_1 (fun mr mr_1 => ((decide ((mr + mr_1) <= (List.length out_1))) && (k0 (List.take mr_1 (List.drop mr out_1)))))))) (0, (List.replicate (Int.toNat (((IntKind.wrap .u64 (Int.tdiv n 32)) + (((List.length m) : Nat) : Int)) + 1)) (0 : Int)))))))))

def sQ152 (N : Nat) : TSQ152 := GQ152 N (sQ16 N)

abbrev TSQ97 : Type := Int -> Bool -> Bool -> List Int -> (Bool -> List Int -> Bool) -> Bool

def GQ97 (N : Nat) (SQ152 : TSQ152) (SQ51 : TSQ51) (n : Int) (b b_1 : Bool) (b_2 : List Int) (k0 : Bool -> List Int -> Bool) : Bool :=
  (SQ152 b_2 n (fun nsr => (SQ51 b_1 nsr b (fun cr nsr_1 => (k0 cr nsr_1)))))

def sQ97 (N : Nat) : TSQ97 := GQ97 N (sQ152 N) (sQ51 N)

abbrev TSQ34 : Type := Int -> Int -> Bool -> List Int -> (Bool) -> (Bool -> List Int -> Bool) -> Bool

def GQ34 (N : Nat) (SQ97 : TSQ97) (x e : Int) (b : Bool) (b_1 : List Int) (k0 : Bool) (k1 : Bool -> List Int -> Bool) : Bool :=
  (cond (decide (e >= x)) k0 ((fits .i64 (x - e)) && (SQ97 (IntKind.wrap .u64 (x - e)) false b b_1 (fun cr nsr => (k1 cr nsr)))))

def sQ34 (N : Nat) : TSQ34 := GQ34 N (sQ97 N)

abbrev TSQ153 : Type := List Int -> List Int -> (List Int -> Bool) -> Bool

def st_z00_plus_0 (N : Nat) (SQ16 : TSQ16) (a_1 b_1 : List Int) (e0 : Int -> List Int -> Bool) : (Int × Int × List Int) -> ((Int × Int × List Int) -> Bool) -> Bool := fun v_ K => match v_ with
  | (carry, i, out) => (cond (decide (i < (((List.length a_1) : Nat) : Int))) ((inR i (List.length a_1)) && (cond (decide (i < (((List.length b_1) : Nat) : Int))) ((inR i (List.length b_1)) && ((inR i (List.length out)) && ((decide ((Int.toNat i) < (List.length out))) && ((fits .i64 (i + 1)) && (K ((Int.fdiv (IntKind.wrap .u64 ((IntKind.wrap .u64 ((IntKind.wrap .u64 (List.getD a_1 (Int.toNat i) 0)) + carry)) + (IntKind.wrap .u64 (List.getD b_1 (Int.toNat i) 0)))) (2 ^ 32)), (i + 1), (List.set out (Int.toNat i) (IntKind.wrap .u32 (IntKind.wrap .u64 ((IntKind.wrap .u64 ((IntKind.wrap .u64 (List.getD a_1 (Int.toNat i) 0)) + carry)) + (IntKind.wrap .u64 (List.getD b_1 (Int.toNat i) 0)))))))))))) ((inR i (List.length out)) && ((decide ((Int.toNat i) < (List.length out))) && ((fits .i64 (i + 1)) && (K ((Int.fdiv (IntKind.wrap .u64 ((IntKind.wrap .u64 (List.getD a_1 (Int.toNat i) 0)) + carry)) (2 ^ 32)), (i + 1), (List.set out (Int.toNat i) (IntKind.wrap .u32 (IntKind.wrap .u64 ((IntKind.wrap .u64 (List.getD a_1 (Int.toNat i) 0)) + carry))))))))))) (e0 carry out))

def GQ153 (N : Nat) (SQ16 : TSQ16) (a b : List Int) (k0 : List Int -> Bool) : Bool :=
  (cond (decide ((((List.length a) : Nat) : Int) < (((List.length b) : Nat) : Int))) ((fits .i64 ((((List.length b) : Nat) : Int) + 1)) && ((mkOk 4 ((((List.length b) : Nat) : Int) + 1) ((((List.length b) : Nat) : Int) + 1)) && (iterG N (st_z00_plus_0 N SQ16 b a (fun carry_1 out_1 => ((inR (((List.length b) : Nat) : Int) (List.length out_1)) && ((decide ((Int.toNat (((List.length b) : Nat) : Int)) < (List.length out_1))) && (SQ16 (List.set out_1 (Int.toNat (((List.length b) : Nat) : Int)) (IntKind.wrap .u32 carry_1)) (fun mr mr_1 => ((decide ((mr + mr_1) <= (List.length (List.set out_1 (Int.toNat (((List.length b) : Nat) : Int)) (IntKind.wrap .u32 carry_1))))) && (k0 (List.take mr_1 (List.drop mr (List.set out_1 (Int.toNat (((List.length b) : Nat) : Int)) (IntKind.wrap .u32 carry_1)))))))))))) (0, 0, (List.replicate (Int.toNat ((((List.length b) : Nat) : Int) + 1)) (0 : Int)))))) ((fits .i64 ((((List.length a) : Nat) : Int) + 1)) && ((mkOk 4 ((((List.length a) : Nat) : Int) + 1) ((((List.length a) : Nat) : Int) + 1)) && (iterG N (st_z00_plus_0 N SQ16 a b (fun carry_2 out_2 => ((inR (((List.length a) : Nat) : Int) (List.length out_2)) && ((decide ((Int.toNat (((List.length a) : Nat) : Int)) < (List.length out_2))) && (SQ16 (List.set out_2 (Int.toNat (((List.length a) : Nat) : Int)) (IntKind.wrap .u32 carry_2)) (fun mr_2 mr_3 => ((decide ((mr_2 + mr_3) <= (List.length (List.set out_2 (Int.toNat (((List.length a) : Nat) : Int)) (IntKind.wrap .u32 carry_2))))) && (k0 (List.take mr_3 (List.drop mr_2 (List.set out_2 (Int.toNat (((List.length a) : Nat) : Int)) (IntKind.wrap .u32 carry_2)))))))))))) (0, 0, (List.replicate (Int.toNat ((((List.length a) : Nat) : Int) + 1)) (0 : Int)))))))

def sQ153 (N : Nat) : TSQ153 := GQ153 N (sQ16 N)

abbrev TSQ112 : Type := List Int -> List Int -> (Int -> Bool) -> Bool

def stQ193 (N : Nat) (a_1 b_1 : List Int) (e0 : Int -> Bool) (e1 : Bool) : (Int) -> ((Int) -> Bool) -> Bool := fun v_ K => match v_ with
  | i => (cond (decide (i >= 0)) ((inR i (List.length a_1)) && ((inR i (List.length b_1)) && (cond (decide ((List.getD a_1 (Int.toNat i) 0) < (List.getD b_1 (Int.toNat i) 0))) (e0 (-1)) ((inR i (List.length a_1)) && ((inR i (List.length b_1)) && (cond (decide ((List.getD a_1 (Int.toNat i) 0) > (List.getD b_1 (Int.toNat i) 0))) (e0 1) ((fits .i64 (i - 1)) && (K (i - 1))))))))) e1)

def GQ112 (N : Nat) (a b : List Int) (k0 : Int -> Bool) : Bool :=
  (cond ((((List.length a) : Nat) : Int) != (((List.length b) : Nat) : Int)) (cond (decide ((((List.length a) : Nat) : Int) < (((List.length b) : Nat) : Int))) (k0 (-1)) (k0 1)) ((fits .i64 ((((List.length a) : Nat) : Int) - 1)) && (iterG N (stQ193 N a b (fun t4 => (k0 t4)) (k0 0)) ((((List.length a) : Nat) : Int) - 1))))

def sQ112 (N : Nat) : TSQ112 := GQ112 N

abbrev TSQ135 : Type := List Int -> List Int -> (List Int -> Bool) -> Bool

def st_z00_minus_0 (N : Nat) (SQ16 : TSQ16) (a_1 b_1 : List Int) (e0 : List Int -> Bool) : (Int × Int × List Int) -> ((Int × Int × List Int) -> Bool) -> Bool := fun v_ K => match v_ with
  | (borrow, i, out) => (cond (decide (i < (((List.length a_1) : Nat) : Int))) (cond (decide (i < (((List.length b_1) : Nat) : Int))) ((inR i (List.length b_1)) && ((inR i (List.length a_1)) && (cond (decide ((IntKind.wrap .u64 (List.getD a_1 (Int.toNat i) 0)) < (IntKind.wrap .u64 (borrow + (IntKind.wrap .u64 (List.getD b_1 (Int.toNat i) 0)))))) ((inR i (List.length out)) && ((decide ((Int.toNat i) < (List.length out))) && ((fits .i64 (i + 1)) && (K (1, (i + 1), (List.set out (Int.toNat i) (IntKind.wrap .u32 (IntKind.wrap .u64 ((IntKind.wrap .u64 ((IntKind.wrap .u64 (List.getD a_1 (Int.toNat i) 0)) + 4294967296)) - (IntKind.wrap .u64 (borrow + (IntKind.wrap .u64 (List.getD b_1 (Int.toNat i) 0))))))))))))) ((inR i (List.length out)) && ((decide ((Int.toNat i) < (List.length out))) && ((fits .i64 (i + 1)) && (K (0, (i + 1), (List.set out (Int.toNat i) (IntKind.wrap .u32 (IntKind.wrap .u64 ((IntKind.wrap .u64 (List.getD a_1 (Int.toNat i) 0)) - (IntKind.wrap .u64 (borrow + (IntKind.wrap .u64 (List.getD b_1 (Int.toNat i) 0)))))))))))))))) ((inR i (List.length a_1)) && (cond (decide ((IntKind.wrap .u64 (List.getD a_1 (Int.toNat i) 0)) < borrow)) ((inR i (List.length out)) && ((decide ((Int.toNat i) < (List.length out))) && ((fits .i64 (i + 1)) && (K (1, (i + 1), (List.set out (Int.toNat i) (IntKind.wrap .u32 (IntKind.wrap .u64 ((IntKind.wrap .u64 ((IntKind.wrap .u64 (List.getD a_1 (Int.toNat i) 0)) + 4294967296)) - borrow))))))))) ((inR i (List.length out)) && ((decide ((Int.toNat i) < (List.length out))) && ((fits .i64 (i + 1)) && (K (0, (i + 1), (List.set out (Int.toNat i) (IntKind.wrap .u32 (IntKind.wrap .u64 ((IntKind.wrap .u64 (List.getD a_1 (Int.toNat i) 0)) - borrow)))))))))))) (e0 out))

def GQ135 (N : Nat) (SQ16 : TSQ16) (a b : List Int) (k0 : List Int -> Bool) : Bool :=
  ((mkOk 4 (((List.length a) : Nat) : Int) (((List.length a) : Nat) : Int)) && (iterG N (st_z00_minus_0 N SQ16 a b (fun out_1 => (SQ16 out_1 (fun mr mr_1 => ((decide ((mr + mr_1) <= (List.length out_1))) && (k0 (List.take mr_1 (List.drop mr out_1)))))))) (0, 0, (List.replicate (Int.toNat (((List.length a) : Nat) : Int)) (0 : Int)))))

def sQ135 (N : Nat) : TSQ135 := GQ135 N (sQ16 N)

abbrev TSQ80 : Type := Bool -> Bool -> Bool -> List Int -> Bool -> List Int -> (Bool -> List Int -> Bool) -> Bool

def GQ80 (N : Nat) (SQ153 : TSQ153) (SQ51 : TSQ51) (SQ112 : TSQ112) (SQ135 : TSQ135) (turn b b_1 : Bool) (b_2 : List Int) (b_3 : Bool) (b_4 : List Int) (k0 : Bool -> List Int -> Bool) : Bool :=
  (cond (b_1 == (b_3 != turn)) (SQ153 b_2 b_4 (fun nsr => (SQ51 (b_3 != turn) nsr b (fun cr nsr_1 => (k0 cr nsr_1))))) (SQ112 b_2 b_4 (fun nr => (cond (decide (nr >= 0)) (SQ135 b_2 b_4 (fun nsr_2 => (SQ51 b_1 nsr_2 b (fun cr_1 nsr_3 => (k0 cr_1 nsr_3))))) (SQ135 b_4 b_2 (fun nsr_4 => (SQ51 (b_3 != turn) nsr_4 b (fun cr_2 nsr_5 => (k0 cr_2 nsr_5)))))))))

def sQ80 (N : Nat) : TSQ80 := GQ80 N (sQ153 N) (sQ51 N) (sQ112 N) (sQ135 N)

abbrev TSQ49 : Type := Bool -> Bool -> List Int -> Bool -> List Int -> (Bool -> List Int -> Bool) -> Bool

def GQ49 (N : Nat) (SQ80 : TSQ80) (b b_1 : Bool) (b_2 : List Int) (b_3 : Bool) (b_4 : List Int) (k0 : Bool -> List Int -> Bool) : Bool :=
  (SQ80 false b b_1 b_2 b_3 b_4 (fun cr nsr => (k0 cr nsr)))

def sQ49 (N : Nat) : TSQ49 := GQ49 N (sQ80 N)

abbrev TSQ23 : Type := Int -> Int -> Bool -> Bool -> List Int -> (List Int -> Bool) -> (List Int -> Bool) -> (Int -> List Int -> Bool -> List Int -> Bool) -> Bool

def GQ23 (N : Nat) (SQ119 : TSQ119) (SQ64 : TSQ64) (SQ34 : TSQ34) (SQ49 : TSQ49) (x y : Int) (b b_1 : Bool) (b_2 : List Int) (k0 : List Int -> Bool) (k1 : List Int -> Bool) (k2 : Int -> List Int -> Bool -> List Int -> Bool) : Bool :=
  (SQ119 b (fun nr nsr => (cond (nr == 0) (k0 nsr) (SQ64 b_1 b_2 (fun nr_1 => (cond (nr_1 == 0) (k1 nsr) (SQ34 x (imm false x y) b nsr (SQ34 y (imm false x y) b_1 b_2 (SQ49 false b nsr b_1 b_2 (fun cr nsr_1 => (k2 (imm false x y) nsr cr nsr_1))) (fun cr_1 nsr_2 => (SQ49 false b nsr cr_1 nsr_2 (fun cr_2 nsr_3 => (k2 (imm false x y) nsr cr_2 nsr_3))))) (fun cr_3 nsr_4 => (SQ34 y (imm false x y) b_1 b_2 (SQ49 false cr_3 nsr_4 b_1 b_2 (fun cr_4 nsr_5 => (k2 (imm false x y) nsr cr_4 nsr_5))) (fun cr_5 nsr_6 => (SQ49 false cr_3 nsr_4 cr_5 nsr_6 (fun cr_6 nsr_7 => (k2 (imm false x y) nsr cr_6 nsr_7)))))))))))))

def sQ23 (N : Nat) : TSQ23 := GQ23 N (sQ119 N) (sQ64 N) (sQ34 N) (sQ49 N)

abbrev TSQ8 : Type := Int -> Int -> Bool -> List Int -> Bool -> List Int -> (Bool) -> (Bool) -> (Int -> Bool -> List Int -> Bool) -> Bool

def GQ8 (N : Nat) (SQ64 : TSQ64) (SQ34 : TSQ34) (SQ49 : TSQ49) (x y : Int) (b : Bool) (b_1 : List Int) (b_2 : Bool) (b_3 : List Int) (k0 k1 : Bool) (k2 : Int -> Bool -> List Int -> Bool) : Bool :=
  (SQ64 b b_1 (fun nr => (cond (nr == 0) k0 (SQ64 b_2 b_3 (fun nr_1 => (cond (nr_1 == 0) k1 (SQ34 x (imm false x y) b b_1 (SQ34 y (imm false x y) b_2 b_3 (SQ49 false b b_1 b_2 b_3 (fun cr nsr => (k2 (imm false x y) cr nsr))) (fun cr_1 nsr_1 => (SQ49 false b b_1 cr_1 nsr_1 (fun cr_2 nsr_2 => (k2 (imm false x y) cr_2 nsr_2))))) (fun cr_3 nsr_3 => (SQ34 y (imm false x y) b_2 b_3 (SQ49 false cr_3 nsr_3 b_2 b_3 (fun cr_4 nsr_4 => (k2 (imm false x y) cr_4 nsr_4))) (fun cr_5 nsr_5 => (SQ49 false cr_3 nsr_3 cr_5 nsr_5 (fun cr_6 nsr_6 => (k2 (imm false x y) cr_6 nsr_6)))))))))))))

def sQ8 (N : Nat) : TSQ8 := GQ8 N (sQ64 N) (sQ34 N) (sQ49 N)

abbrev TSQ168 : Type := List Fl -> List Fl -> (Int -> Bool -> List Int -> Bool) -> Bool

def st_z03_Dot_0 (N : Nat) (SQ125 : TSQ125) (SQ166 : TSQ166) (SQ24 : TSQ24) (SQ23 : TSQ23) (SQ8 : TSQ8) (a_2 b_2 : List Fl) (t9_1 : Int) (t4_2 : Value) (t4_3 : Int) (e0 : Int -> Bool -> List Int -> Bool) : (Int × Int × Bool × List Int) -> ((Int × Int × Bool × List Int) -> Bool) -> Bool := fun v_ K => match v_ with
  | (t10_1, s_1, b2_1, b2_2) => (cond (decide (t10_1 < t9_1)) ((inR t10_1 (List.length a_2)) && (SQ166 (List.getD a_2 (Int.toNat t10_1) none) (fun nr_4 cr_4 nsr_4 => ((inR t10_1 (List.length b_2)) && (SQ166 (List.getD b_2 (Int.toNat t10_1) none) (fun nr_5 cr_5 nsr_5 => (SQ24 nr_4 nr_5 cr_4 nsr_4 cr_5 nsr_5 (fun nr_6 cr_6 nsr_6 => (SQ8 s_1 nr_6 b2_1 b2_2 cr_6 nsr_6 ((fits .i64 (t10_1 + 1)) && (K ((t10_1 + 1), nr_6, cr_6, nsr_6))) ((fits .i64 (t10_1 + 1)) && (K ((t10_1 + 1), s_1, b2_1, b2_2))) (fun nr_7 cr_7 nsr_7 => ((fits .i64 (t10_1 + 1)) && (K ((t10_1 + 1), nr_7, cr_7, nsr_7))))))))))))) (e0 s_1 b2_1 b2_2))

def GQ168 (N : Nat) (SQ125 : TSQ125) (SQ166 : TSQ166) (SQ24 : TSQ24) (SQ23 : TSQ23) (SQ8 : TSQ8) (a b : List Fl) (k0 : Int -> Bool -> List Int -> Bool) : Bool :=
  (SQ125 (fun nr cr => (iterG N (st_z03_Dot_0 N SQ125 SQ166 SQ24 SQ23 SQ8 a b (((List.length a) : Nat) : Int) (.pointer none) 0 (fun s_2 b2_3 b2_4 => (k0 s_2 b2_3 b2_4))) (0, nr, cr, []))))

def sQ168 (N : Nat) : TSQ168 := GQ168 N (sQ125 N) (sQ166 N) (sQ24 N) (sQ23 N) (sQ8 N)

abbrev TSQ87 : Type := Int -> Bool -> (Bool -> List Int -> Bool) -> Bool

def GQ87 (N : Nat) (SQ113 : TSQ113) (SQ51 : TSQ51) (n : Int) (b : Bool) (k0 : Bool -> List Int -> Bool) : Bool :=
  (cond (decide (n < 0)) (SQ113 (IntKind.wrap .u64 (0 - (IntKind.wrap .u64 n))) (fun nsr => (SQ51 (decide (n < 0)) nsr b (fun cr nsr_1 => (k0 cr nsr_1))))) (SQ113 (IntKind.wrap .u64 n) (fun nsr_2 => (SQ51 (decide (n < 0)) nsr_2 b (fun cr_1 nsr_3 => (k0 cr_1 nsr_3))))))

def sQ87 (N : Nat) : TSQ87 := GQ87 N (sQ113 N) (sQ51 N)

abbrev TSQ93 : Type := Int -> (Bool -> List Int -> Bool) -> Bool

def GQ93 (N : Nat) (SQ87 : TSQ87) (n : Int) (k0 : Bool -> List Int -> Bool) : Bool :=
  (SQ87 n false (fun cr nsr => (k0 cr nsr)))

def sQ93 (N : Nat) : TSQ93 := GQ93 N (sQ87 N)

abbrev TSQ144 : Type := Int -> (Int -> Bool -> List Int -> Bool) -> Bool

def GQ144 (N : Nat) (SQ93 : TSQ93) (n : Int) (k0 : Int -> Bool -> List Int -> Bool) : Bool :=
  (SQ93 n (fun cr nsr => (k0 0 cr nsr)))

def sQ144 (N : Nat) : TSQ144 := GQ144 N (sQ93 N)

abbrev TSQ83 : Type := Bool -> Bool -> List Int -> (Bool -> Nat -> Nat -> Bool) -> Bool

def GQ83 (N : Nat) (SQ16 : TSQ16) (neg b : Bool) (b_1 : List Int) (k0 : Bool -> Nat -> Nat -> Bool) : Bool :=
  (SQ16 b_1 (fun mr mr_1 => (cond (neg == true) (k0 (decide (((mr_1 : Nat) : Int) > 0)) mr mr_1) (k0 false mr mr_1))))

def sQ83 (N : Nat) : TSQ83 := GQ83 N (sQ16 N)

abbrev TSQ96 : Type := Bool -> Bool -> List Int -> (Bool -> List Int -> Bool) -> Bool

def GQ96 (N : Nat) (SQ83 : TSQ83) (b b_1 : Bool) (b_2 : List Int) (k0 : Bool -> List Int -> Bool) : Bool :=
  ((decide ((List.length ([] ++ b_2)) * 4 <= 140737488355328)) && (SQ83 false b ([] ++ b_2) (fun cr mr mr_1 => ((decide ((mr + mr_1) <= (List.length ([] ++ b_2)))) && (k0 cr (List.take mr_1 (List.drop mr ([] ++ b_2))))))))

def sQ96 (N : Nat) : TSQ96 := GQ96 N (sQ83 N)

abbrev TSQ57 : Type := Int -> Bool -> List Int -> (Bool -> List Int -> Bool) -> Bool

def GQ57 (N : Nat) (SQ96 : TSQ96) (x : Int) (b : Bool) (b_1 : List Int) (k0 : Bool -> List Int -> Bool) : Bool :=
  (SQ96 false b b_1 (fun cr nsr => (k0 cr nsr)))

def sQ57 (N : Nat) : TSQ57 := GQ57 N (sQ96 N)

abbrev TSQ118 : Type := Fl -> Fl -> Fl -> Fl -> (Int -> Bool -> List Int -> Bool) -> Bool

def GQ118 (N : Nat) (SQ128 : TSQ128) (SQ168 : TSQ168) (SQ144 : TSQ144) (SQ8 : TSQ8) (SQ57 : TSQ57) (q_0 q_1 q_2 q_3 : Fl) (k0 : Int -> Bool -> List Int -> Bool) : Bool :=
  (SQ128 q_0 q_1 q_2 q_3 (fun xsr => (SQ128 q_0 q_1 q_2 q_3 (fun xsr_1 => (SQ168 xsr xsr_1 (fun nr cr nsr => (SQ144 (-1) (fun nr_1 cr_1 nsr_1 => (SQ8 nr nr_1 cr nsr cr_1 nsr_1 (SQ57 nr_1 cr_1 nsr_1 (fun cr_2 nsr_2 => (k0 nr_1 cr_2 nsr_2))) (SQ57 nr cr nsr (fun cr_3 nsr_3 => (k0 nr cr_3 nsr_3))) (fun nr_2 cr_4 nsr_4 => (SQ57 nr_2 cr_4 nsr_4 (fun cr_5 nsr_5 => (k0 nr_2 cr_5 nsr_5)))))))))))))

def sQ118 (N : Nat) : TSQ118 := GQ118 N (sQ128 N) (sQ168 N) (sQ144 N) (sQ8 N) (sQ57 N)

abbrev TSQ143 : Type := Int -> (Bool -> List Int -> Bool) -> Bool

def GQ143 (N : Nat) (SQ93 : TSQ93) (e : Int) (k0 : Bool -> List Int -> Bool) : Bool :=
  (SQ93 1 (fun cr nsr => (k0 cr nsr)))

def sQ143 (N : Nat) : TSQ143 := GQ143 N (sQ93 N)

abbrev TSQ98 : Type := Bool -> Bool -> List Int -> (Bool -> List Int -> Bool) -> Bool

def GQ98 (N : Nat) (SQ83 : TSQ83) (b b_1 : Bool) (b_2 : List Int) (k0 : Bool -> List Int -> Bool) : Bool :=
  ((decide ((List.length ([] ++ b_2)) * 4 <= 140737488355328)) && (SQ83 (!b_1) b ([] ++ b_2) (fun cr mr mr_1 => ((decide ((mr + mr_1) <= (List.length ([] ++ b_2)))) && (k0 cr (List.take mr_1 (List.drop mr ([] ++ b_2))))))))

def sQ98 (N : Nat) : TSQ98 := GQ98 N (sQ83 N)

abbrev TSQ63 : Type := Int -> Bool -> List Int -> (Bool -> List Int -> Bool) -> Bool

def GQ63 (N : Nat) (SQ98 : TSQ98) (x : Int) (b : Bool) (b_1 : List Int) (k0 : Bool -> List Int -> Bool) : Bool :=
  (SQ98 false b b_1 (fun cr nsr => (k0 cr nsr)))

def sQ63 (N : Nat) : TSQ63 := GQ63 N (sQ98 N)

abbrev TSQ50 : Type := Int -> Int -> Bool -> List Int -> Bool -> List Int -> (Int -> Bool) -> Bool

def GQ50 (N : Nat) (SQ63 : TSQ63) (SQ8 : TSQ8) (SQ64 : TSQ64) (x y : Int) (b : Bool) (b_1 : List Int) (b_2 : Bool) (b_3 : List Int) (k0 : Int -> Bool) : Bool :=
  (SQ63 y b_2 b_3 (fun cr nsr => (SQ8 x y b b_1 cr nsr (SQ64 cr nsr (fun nr => (k0 nr))) (SQ64 b b_1 (fun nr_1 => (k0 nr_1))) (fun nr_2 cr_1 nsr_1 => (SQ64 cr_1 nsr_1 (fun nr_3 => (k0 nr_3)))))))

def sQ50 (N : Nat) : TSQ50 := GQ50 N (sQ63 N) (sQ8 N) (sQ64 N)

abbrev TSQ4 : Type := Fl -> Fl -> Fl -> Fl -> (Bool -> Bool) -> Bool

def GQ4 (N : Nat) (SQ92 : TSQ92) (SQ132 : TSQ132) (SQ118 : TSQ118) (SQ143 : TSQ143) (SQ50 : TSQ50) (q_0 q_1 q_2 q_3 : Fl) (k0 : Bool -> Bool) : Bool :=
  (SQ92 q_0 q_1 q_2 q_3 (fun cr => (cond (cr == true) (SQ132 q_0 q_1 q_2 q_3 (fun cr_1 => (cond (cr_1 == true) (SQ118 q_0 q_1 q_2 q_3 (fun nr cr_2 nsr => (SQ143 (-49) (fun cr_3 nsr_1 => (SQ50 nr (-49) cr_2 nsr cr_3 nsr_1 (fun nr_1 => (k0 (decide (nr_1 <= 0))))))))) (k0 false)))) (k0 false))))

def sQ4 (N : Nat) : TSQ4 := GQ4 N (sQ92 N) (sQ132 N) (sQ118 N) (sQ143 N) (sQ50 N)

abbrev TSQ54 : Type := Fl -> Fl -> Fl -> Fl -> Fl -> Fl -> Fl -> Fl -> (Fl -> Fl -> Fl -> Fl -> Int -> Bool) -> Bool

def GQ54 (N : Nat) (SQ123 : TSQ123) (SQ13 : TSQ13) (a_0 a_1 a_2 a_3 b_0 b_1 b_2 b_3 : Fl) (k0 : Fl -> Fl -> Fl -> Fl -> Int -> Bool) : Bool :=
  (SQ123 a_0 a_1 a_2 a_3 b_0 b_1 b_2 b_3 (fun xr xr_1 xr_2 xr_3 nr => (cond (nr != 0) (k0 (some 0) (some 0) (some 0) (some 0) nr) (SQ13 xr xr_1 xr_2 xr_3 (fun xr_4 xr_5 xr_6 xr_7 nr_1 => (k0 xr_4 xr_5 xr_6 xr_7 nr_1))))))

def sQ54 (N : Nat) : TSQ54 := GQ54 N (sQ123 N) (sQ13 N)

abbrev TSQ154 : Type := List Int -> (List Fl -> Bool) -> Bool

def st_z01_Of64_0 (N : Nat) (SQ82 : TSQ82) (t6_1 : List Int) (t7_1 : Int) (e0 : List Fl -> Bool) : (Int × List Fl) -> ((Int × List Fl) -> Bool) -> Bool := fun v_ K => match v_ with
  | (t8_1, x) => (cond (decide (t8_1 < t7_1)) ((inR t8_1 (List.length t6_1)) && (SQ82 (List.getD t6_1 (Int.toNat t8_1) 0) (fun xr_1 => ((decide ((List.length (x ++ [xr_1])) * 8 <= 140737488355328)) && ((fits .i64 (t8_1 + 1)) && (K ((t8_1 + 1), (x ++ [xr_1])))))))) (e0 x))

def GQ154 (N : Nat) (SQ82 : TSQ82) (l : List Int) (k0 : List Fl -> Bool) : Bool :=
  (iterG N (st_z01_Of64_0 N SQ82 l (((List.length l) : Nat) : Int) (fun x_1 => (k0 x_1))) (0, []))

def sQ154 (N : Nat) : TSQ154 := GQ154 N (sQ82 N)

abbrev TSQ10 : Type := Int -> Int -> List Int -> (List Fl -> Bool) -> Bool

def GQ10 (N : Nat) (SQ154 : TSQ154) (m_0 m_1 : Int) (m_2 : List Int) (k0 : List Fl -> Bool) : Bool :=
  (SQ154 m_2 (fun xsr => (k0 xsr)))

def sQ10 (N : Nat) : TSQ10 := GQ10 N (sQ154 N)

abbrev TSQ115 : Type := Int -> (Bool -> Bool) -> Bool

def GQ115 (N : Nat) (n : Int) (k0 : Bool -> Bool) : Bool :=
  (cond ((decide (n >= 0)) == true) (k0 (decide (n <= 12))) (k0 false))

def sQ115 (N : Nat) : TSQ115 := GQ115 N

abbrev TSQ76 : Type := Int -> Int -> List Fl -> (Int -> Bool) -> Bool

def GQ76 (N : Nat) (SQ115 : TSQ115) (SQ69 : TSQ69) (m_0 m_1 : Int) (m_2 : List Fl) (k0 : Int -> Bool) : Bool :=
  (SQ115 m_0 (fun cr => (cond ((!cr) == false) (SQ115 m_1 (fun cr_1 => (cond (!cr_1) (k0 1) ((fits .i64 (m_0 * m_1)) && (cond ((((List.length m_2) : Nat) : Int) != (m_0 * m_1)) (k0 3) (SQ69 m_2 (fun cr_2 => (cond (!cr_2) (k0 4) (k0 0))))))))) (k0 1))))

def sQ76 (N : Nat) : TSQ76 := GQ76 N (sQ115 N) (sQ69 N)

abbrev TSQ30 : Type := Int -> Int -> Int -> Int -> List Fl -> (Fl -> Bool) -> Bool

def GQ30 (N : Nat) (i j b b_1 : Int) (b_2 : List Fl) (k0 : Fl -> Bool) : Bool :=
  ((fits .i64 (3 * i)) && ((fits .i64 ((3 * i) + j)) && ((inR ((3 * i) + j) (List.length b_2)) && (k0 (List.getD b_2 (Int.toNat ((3 * i) + j)) none)))))

def sQ30 (N : Nat) : TSQ30 := GQ30 N

abbrev TSQ56 : Type := Int -> Int -> List Fl -> (Fl -> Fl -> Fl -> Fl -> Int -> Bool) -> Bool

def JQ183 (N : Nat) (SQ76 : TSQ76) (SQ30 : TSQ30) (SQ12 : TSQ12) (SQ72 : TSQ72) (SQ13 : TSQ13) (m_0 m_1 : Int) (m_2 : List Fl) (k_ k__1 k__2 k__3 : Fl) (k0 : Fl -> Fl -> Fl -> Fl -> Int -> Bool) : Bool :=
  (SQ72 k_ k__1 k__2 k__3 (fun xr_15 xr_16 xr_17 xr_18 nr_1 => (cond (nr_1 != 0) (k0 xr_15 xr_16 xr_17 xr_18 nr_1) (SQ13 k_ k__1 k__2 k__3 (fun xr_19 xr_20 xr_21 xr_22 nr_2 => (k0 xr_19 xr_20 xr_21 xr_22 nr_2))))))

def GQ56 (N : Nat) (SQ76 : TSQ76) (SQ30 : TSQ30) (SQ12 : TSQ12) (SQ72 : TSQ72) (SQ13 : TSQ13) (m_0 m_1 : Int) (m_2 : List Fl) (k0 : Fl -> Fl -> Fl -> Fl -> Int -> Bool) : Bool :=
  (SQ76 m_0 m_1 m_2 (fun nr => (cond (nr != 0) (k0 (some 0) (some 0) (some 0) (some 0) nr) (cond ((m_0 != 3) == false) (cond (m_1 != 3) (k0 (some 0) (some 0) (some 0) (some 0) 3) (SQ30 0 0 m_0 m_1 m_2 (fun xr => (SQ30 1 1 m_0 m_1 m_2 (fun xr_1 => (SQ30 2 2 m_0 m_1 m_2 (fun xr_2 => (SQ12 [(fadd (fadd xr xr_1) xr_2)] (fun cr => (cond (!cr) (k0 (some 0) (some 0) (some 0) (some 0) 5) (SQ30 2 1 m_0 m_1 m_2 (fun xr_3 => (SQ30 1 2 m_0 m_1 m_2 (fun xr_4 => (SQ30 0 2 m_0 m_1 m_2 (fun xr_5 => (SQ30 2 0 m_0 m_1 m_2 (fun xr_6 => (SQ30 1 0 m_0 m_1 m_2 (fun xr_7 => (SQ30 0 1 m_0 m_1 m_2 (fun xr_8 => (SQ30 0 1 m_0 m_1 m_2 (fun xr_9 => (SQ30 1 0 m_0 m_1 m_2 (fun xr_10 => (SQ30 0 2 m_0 m_1 m_2 (fun xr_11 => (SQ30 2 0 m_0 m_1 m_2 (fun xr_12 => (SQ30 1 2 m_0 m_1 m_2 (fun xr_13 => (SQ30 2 1 m_0 m_1 m_2 (fun xr_14 => (cond (feq (fmm true (fmm true (fmm true (fadd (fadd xr xr_1) xr_2) xr) xr_1) xr_2) (fadd (fadd xr xr_1) xr_2)) (JQ183 N SQ76 SQ30 SQ12 SQ72 SQ13 m_0 m_1 m_2 (fadd (some 4607182418800017408) (fadd (fadd xr xr_1) xr_2)) (fsub xr_3 xr_4) (fsub xr_5 xr_6) (fsub xr_7 xr_8) k0) (cond (feq (fmm true (fmm true (fmm true (fadd (fadd xr xr_1) xr_2) xr) xr_1) xr_2) xr) (JQ183 N SQ76 SQ30 SQ12 SQ72 SQ13 m_0 m_1 m_2 (fsub xr_3 xr_4) (fsub (fsub (fadd (some 4607182418800017408) xr) xr_1) xr_2) (fadd xr_9 xr_10) (fadd xr_11 xr_12) k0) (cond (feq (fmm true (fmm true (fmm true (fadd (fadd xr xr_1) xr_2) xr) xr_1) xr_2) xr_1) (JQ183 N SQ76 SQ30 SQ12 SQ72 SQ13 m_0 m_1 m_2 (fsub xr_5 xr_6) (fadd xr_9 xr_10) (fsub (fadd (fsub (some 4607182418800017408) xr) xr_1) xr_2) (fadd xr_13 xr_14) k0) (JQ183 N SQ76 SQ30 SQ12 SQ72 SQ13 m_0 m_1 m_2 (fsub xr_7 xr_8) (fadd xr_11 xr_12) (fadd xr_13 xr_14) (fadd (fsub (fsub (some 4607182418800017408) xr) xr_1) xr_2) k0)))))))))))))))))))))))))))))))))))))) (k0 (some 0) (some 0) (some 0) (some 0) 3)))))

def sQ56 (N : Nat) : TSQ56 := GQ56 N (sQ76 N) (sQ30 N) (sQ12 N) (sQ72 N) (sQ13 N)

abbrev TSQ7 : Type := Int -> Int -> Int -> (Fl -> Fl -> Fl -> Bool) -> Bool

def GQ7 (N : Nat) (SQ11 : TSQ11) (v_0 v_1 v_2 : Int) (k0 : Fl -> Fl -> Fl -> Bool) : Bool :=
  (SQ11 v_0 (fun xr => (SQ11 v_1 (fun xr_1 => (SQ11 v_2 (fun xr_2 => (k0 xr xr_1 xr_2)))))))

def sQ7 (N : Nat) : TSQ7 := GQ7 N (sQ11 N)

abbrev TSQ42 : Type := Fl -> Fl -> Fl -> (Fl -> Fl -> Fl -> Fl -> Int -> Bool) -> Bool

def GQ42 (N : Nat) (SQ13 : TSQ13) (v_0 v_1 v_2 : Fl) (k0 : Fl -> Fl -> Fl -> Fl -> Int -> Bool) : Bool :=
  (SQ13 (some 4607182418800017408) (fdiv v_0 (some 4611686018427387904)) (fdiv v_1 (some 4611686018427387904)) (fdiv v_2 (some 4611686018427387904)) (fun xr xr_1 xr_2 xr_3 nr => (k0 xr xr_1 xr_2 xr_3 nr)))

def sQ42 (N : Nat) : TSQ42 := GQ42 N (sQ13 N)

abbrev TSQ170 : Type := List Fl -> (Int -> Bool) -> Bool

def GQ170 (N : Nat) (SQ69 : TSQ69) (x : List Fl) (k0 : Int -> Bool) : Bool :=
  (cond (decide ((((List.length x) : Nat) : Int) > 48)) (k0 1) (SQ69 x (fun cr => (cond (!cr) (k0 4) (k0 0)))))

def sQ170 (N : Nat) : TSQ170 := GQ170 N (sQ69 N)

abbrev TSQ148 : Type := List Fl -> (Int -> Bool -> Bool) -> Bool

def st_qr_power_0 (N : Nat) (S_m_Abs : TS_m_Abs) (SQ120 : TSQ120) (x_1 : List Fl) (t9 : Int) (e0 : Fl -> Bool) : (Fl × Int) -> ((Fl × Int) -> Bool) -> Bool := fun v_ K => match v_ with
  | (most, t10) => (cond (decide (t10 < t9)) ((inR t10 (List.length x_1)) && (S_m_Abs (List.getD x_1 (Int.toNat t10) none) (fun xr => ((fits .i64 (t10 + 1)) && (K ((fmm true most xr), (t10 + 1))))))) (e0 most))

def GQ148 (N : Nat) (S_m_Abs : TS_m_Abs) (SQ120 : TSQ120) (x : List Fl) (k0 : Int -> Bool -> Bool) : Bool :=
  (iterG N (st_qr_power_0 N S_m_Abs SQ120 x (((List.length x) : Nat) : Int) (fun most_1 => (cond (feq most_1 (some 0)) (k0 0 false) (SQ120 most_1 (fun xr_1 nr => ((fits .i64 (nr - 1)) && (k0 (nr - 1) true))))))) ((some 0), 0))

def sQ148 (N : Nat) : TSQ148 := GQ148 N (s_m_Abs N) (sQ120 N)

abbrev TSQ133 : Type := List Fl -> Int -> (Fl -> List Fl -> Bool) -> Bool

def st_qr_scaled_0 (N : Nat) (SQ101 : TSQ101) (SQ149 : TSQ149) (x_1 : List Fl) (k__1 t13 : Int) (e0 : Fl -> List Fl -> Bool) : (Fl × Int × List Fl) -> ((Fl × Int × List Fl) -> Bool) -> Bool := fun v_ K => match v_ with
  | (s, t14, y) => (cond (decide (t14 < t13)) ((inR t14 (List.length x_1)) && ((fits .i64 (0 - k__1)) && (SQ101 (List.getD x_1 (Int.toNat t14) none) (0 - k__1) (fun xr => ((inR t14 (List.length y)) && ((decide ((Int.toNat t14) < (List.length y))) && ((inR t14 (List.length (List.set y (Int.toNat t14) xr))) && ((decide ((Int.toNat t14) < (List.length (List.set y (Int.toNat t14) xr)))) && ((inR t14 (List.length (List.set y (Int.toNat t14) xr))) && ((decide ((Int.toNat t14) < (List.length (List.set y (Int.toNat t14) xr)))) && ((fits .i64 (t14 + 1)) && (K ((fadd s (fmul (List.getD (List.set y (Int.toNat t14) xr) (Int.toNat t14) none) (List.getD (List.set y (Int.toNat t14) xr) (Int.toNat t14) none))), (t14 + 1), (List.set y (Int.toNat t14) xr)))))))))))))) (e0 s y))

def GQ133 (N : Nat) (SQ101 : TSQ101) (SQ149 : TSQ149) (x : List Fl) (k_ : Int) (k0 : Fl -> List Fl -> Bool) : Bool :=
  ((mkOk 8 (((List.length x) : Nat) : Int) (((List.length x) : Nat) : Int)) && (iterG N (st_qr_scaled_0 N SQ101 SQ149 x k_ (((List.length x) : Nat) : Int) (fun s_1 y_1 => (SQ149 s_1 (fun xr_1 => (k0 xr_1 y_1))))) ((some 0), 0, (List.replicate (Int.toNat (((List.length x) : Nat) : Int)) (some 0)))))

def sQ133 (N : Nat) : TSQ133 := GQ133 N (sQ101 N) (sQ149 N)

abbrev TSQ137 : Type := List Fl -> (Fl -> Bool) -> Bool

def GQ137 (N : Nat) (SQ148 : TSQ148) (SQ133 : TSQ133) (SQ101 : TSQ101) (x : List Fl) (k0 : Fl -> Bool) : Bool :=
  (SQ148 x (fun nr cr => (cond (!cr) (k0 (some 0)) (SQ133 x nr (fun xr xsr => (SQ101 xr nr (fun xr_1 => (k0 xr_1))))))))

def sQ137 (N : Nat) : TSQ137 := GQ137 N (sQ148 N) (sQ133 N) (sQ101 N)

abbrev TSQ141 : Type := Fl -> (Bool -> Bool) -> Bool

def GQ141 (N : Nat) (x : Fl) (k0 : Bool -> Bool) : Bool :=
  (k0 (feq (fsub x x) (some 0)))

def sQ141 (N : Nat) : TSQ141 := GQ141 N

abbrev TSQ136 : Type := List Fl -> (Fl -> Int -> Bool) -> Bool

def GQ136 (N : Nat) (SQ170 : TSQ170) (SQ137 : TSQ137) (SQ141 : TSQ141) (x : List Fl) (k0 : Fl -> Int -> Bool) : Bool :=
  (SQ170 x (fun nr => (cond (nr != 0) (k0 (some 0) nr) (SQ137 x (fun xr => (SQ141 xr (fun cr => (cond (!cr) (k0 (some 0) 5) (k0 xr 0)))))))))

def sQ136 (N : Nat) : TSQ136 := GQ136 N (sQ170 N) (sQ137 N) (sQ141 N)

abbrev TSQ73 : Type := Fl -> Fl -> Fl -> (Fl -> Fl -> Fl -> Int -> Bool) -> Bool

def GQ73 (N : Nat) (SQ136 : TSQ136) (v_0 v_1 v_2 : Fl) (k0 : Fl -> Fl -> Fl -> Int -> Bool) : Bool :=
  (SQ136 [v_0, v_1, v_2] (fun xr nr => (cond (nr != 0) (k0 (some 0) (some 0) (some 0) nr) (k0 (fdiv v_0 xr) (fdiv v_1 xr) (fdiv v_2 xr) 0))))

def sQ73 (N : Nat) : TSQ73 := GQ73 N (sQ136 N)

abbrev TSQ28 : Type := Fl -> Fl -> Fl -> Fl -> Fl -> Fl -> (Fl -> Fl -> Fl -> Fl -> Int -> Bool) -> Bool

def JQ188 (N : Nat) (SQ12 : TSQ12) (SQ73 : TSQ73) (SQ60 : TSQ60) (SQ26 : TSQ26) (S_m_Abs : TS_m_Abs) (SQ13 : TSQ13) (a_0 a_1 a_2 b_0 b_1 b_2 q_3 q_4 q_5 q_6 : Fl) (k0 : Fl -> Fl -> Fl -> Fl -> Int -> Bool) : Bool :=
  (SQ13 q_3 q_4 q_5 q_6 (fun xr_51 xr_52 xr_53 xr_54 nr_3 => (k0 xr_51 xr_52 xr_53 xr_54 nr_3)))

def JQ169 (N : Nat) (SQ12 : TSQ12) (SQ73 : TSQ73) (SQ60 : TSQ60) (SQ26 : TSQ26) (S_m_Abs : TS_m_Abs) (SQ13 : TSQ13) (a_0 a_1 a_2 b_0 b_1 b_2 q q_1 q_2 : Fl) (k0 : Fl -> Fl -> Fl -> Fl -> Int -> Bool) : Bool :=
  (SQ13 (some 0) q q_1 q_2 (fun xr_47 xr_48 xr_49 xr_50 nr_2 => (k0 xr_47 xr_48 xr_49 xr_50 nr_2)))

def GQ28 (N : Nat) (SQ12 : TSQ12) (SQ73 : TSQ73) (SQ60 : TSQ60) (SQ26 : TSQ26) (S_m_Abs : TS_m_Abs) (SQ13 : TSQ13) (a_0 a_1 a_2 b_0 b_1 b_2 : Fl) (k0 : Fl -> Fl -> Fl -> Fl -> Int -> Bool) : Bool :=
  (SQ12 [a_0, a_1, a_2] (fun cr => (cond ((!cr) == false) (SQ12 [b_0, b_1, b_2] (fun cr_1 => (cond (!cr_1) (k0 (some 0) (some 0) (some 0) (some 0) 4) (cond (((feq a_0 (some 0)) && ((feq a_1 (some 0)) && (feq a_2 (some 0)))) == false) (cond ((feq b_0 (some 0)) && ((feq b_1 (some 0)) && (feq b_2 (some 0)))) (k0 (some 0) (some 0) (some 0) (some 0) 120) (SQ73 a_0 a_1 a_2 (fun xr xr_1 xr_2 nr => (cond (nr != 0) (k0 (some 0) (some 0) (some 0) (some 0) nr) (SQ73 b_0 b_1 b_2 (fun xr_3 xr_4 xr_5 nr_1 => (cond (nr_1 != 0) (k0 (some 0) (some 0) (some 0) (some 0) nr_1) (SQ60 xr xr_1 xr_2 xr_3 xr_4 xr_5 (fun xr_6 xr_7 xr_8 => (SQ26 (fadd (some 4607182418800017408) (fadd (fadd (fmul xr xr_3) (fmul xr_1 xr_4)) (fmul xr_2 xr_5))) xr_6 xr_7 xr_8 (cond ((feq (fadd (some 4607182418800017408) (fadd (fadd (fmul xr xr_3) (fmul xr_1 xr_4)) (fmul xr_2 xr_5))) (some 0)) && ((feq xr_6 (some 0)) && ((feq xr_7 (some 0)) && (feq xr_8 (some 0))))) (S_m_Abs xr (fun xr_9 => (S_m_Abs xr (fun xr_10 => (cond (flt xr_9 xr_10) (S_m_Abs xr_1 (fun xr_11 => (S_m_Abs xr (fun xr_12 => (cond (flt xr_11 xr_12) (S_m_Abs xr_2 (fun xr_13 => (S_m_Abs xr_1 (fun xr_14 => (cond (flt xr_13 xr_14) (SQ60 xr xr_1 xr_2 (some 0) (some 0) (some 4607182418800017408) (fun xr_15 xr_16 xr_17 => (JQ169 N SQ12 SQ73 SQ60 SQ26 S_m_Abs SQ13 a_0 a_1 a_2 b_0 b_1 b_2 xr_15 xr_16 xr_17 k0))) (SQ60 xr xr_1 xr_2 (some 0) (some 4607182418800017408) (some 0) (fun xr_18 xr_19 xr_20 => (JQ169 N SQ12 SQ73 SQ60 SQ26 S_m_Abs SQ13 a_0 a_1 a_2 b_0 b_1 b_2 xr_18 xr_19 xr_20 k0)))))))) (S_m_Abs xr_2 (fun xr_21 => (S_m_Abs xr (fun xr_22 => (cond (flt xr_21 xr_22) (SQ60 xr xr_1 xr_2 (some 0) (some 0) (some 4607182418800017408) (fun xr_23 xr_24 xr_25 => (JQ169 N SQ12 SQ73 SQ60 SQ26 S_m_Abs SQ13 a_0 a_1 a_2 b_0 b_1 b_2 xr_23 xr_24 xr_25 k0))) (SQ60 xr xr_1 xr_2 (some 4607182418800017408) (some 0) (some 0) (fun xr_26 xr_27 xr_28 => (JQ169 N SQ12 SQ73 SQ60 SQ26 S_m_Abs SQ13 a_0 a_1 a_2 b_0 b_1 b_2 xr_26 xr_27 xr_28 k0))))))))))))) (S_m_Abs xr_1 (fun xr_29 => (S_m_Abs xr (fun xr_30 => (cond (flt xr_29 xr_30) (S_m_Abs xr_2 (fun xr_31 => (S_m_Abs xr_1 (fun xr_32 => (cond (flt xr_31 xr_32) (SQ60 xr xr_1 xr_2 (some 0) (some 0) (some 4607182418800017408) (fun xr_33 xr_34 xr_35 => (JQ169 N SQ12 SQ73 SQ60 SQ26 S_m_Abs SQ13 a_0 a_1 a_2 b_0 b_1 b_2 xr_33 xr_34 xr_35 k0))) (SQ60 xr xr_1 xr_2 (some 0) (some 4607182418800017408) (some 0) (fun xr_36 xr_37 xr_38 => (JQ169 N SQ12 SQ73 SQ60 SQ26 S_m_Abs SQ13 a_0 a_1 a_2 b_0 b_1 b_2 xr_36 xr_37 xr_38 k0)))))))) (S_m_Abs xr_2 (fun xr_39 => (S_m_Abs xr (fun xr_40 => (cond (flt xr_39 xr_40) (SQ60 xr xr_1 xr_2 (some 0) (some 0) (some 4607182418800017408) (fun xr_41 xr_42 xr_43 => (JQ169 N SQ12 SQ73 SQ60 SQ26 S_m_Abs SQ13 a_0 a_1 a_2 b_0 b_1 b_2 xr_41 xr_42 xr_43 k0))) (SQ60 xr xr_1 xr_2 (some 4607182418800017408) (some 0) (some 0) (fun xr_44 xr_45 xr_46 => (JQ169 N SQ12 SQ73 SQ60 SQ26 S_m_Abs SQ13 a_0 a_1 a_2 b_0 b_1 b_2 xr_44 xr_45 xr_46 k0)))))))))))))))))) (JQ188 N SQ12 SQ73 SQ60 SQ26 S_m_Abs SQ13 a_0 a_1 a_2 b_0 b_1 b_2 (fadd (some 4607182418800017408) (fadd (fadd (fmul xr xr_3) (fmul xr_1 xr_4)) (fmul xr_2 xr_5))) xr_6 xr_7 xr_8 k0)))))))))))) (k0 (some 0) (some 0) (some 0) (some 0) 120))))) (k0 (some 0) (some 0) (some 0) (some 0) 4))))

def sQ28 (N : Nat) : TSQ28 := GQ28 (N + 24) (sQ12 N) (sQ73 N) (sQ60 N) (sQ26 N) (s_m_Abs N) (sQ13 N)

abbrev TSQ157 : Type := Fl -> Fl -> Fl -> Fl -> Fl -> Fl -> Fl -> Fl -> (Fl -> Int -> Bool) -> Bool

def GQ157 (N : Nat) (SQ59 : TSQ59) (SQ12 : TSQ12) (a_0 a_1 a_2 a_3 b_0 b_1 b_2 b_3 : Fl) (k0 : Fl -> Int -> Bool) : Bool :=
  (SQ59 a_0 a_1 a_2 a_3 b_0 b_1 b_2 b_3 (fun cr => (cond (!cr) (k0 (some 0) 4) (SQ12 [(fadd (fadd (fadd (fmul a_0 b_0) (fmul a_1 b_1)) (fmul a_2 b_2)) (fmul a_3 b_3))] (fun cr_1 => (cond (!cr_1) (k0 (some 0) 5) (k0 (fadd (fadd (fadd (fmul a_0 b_0) (fmul a_1 b_1)) (fmul a_2 b_2)) (fmul a_3 b_3)) 0)))))))

def sQ157 (N : Nat) : TSQ157 := GQ157 N (sQ59 N) (sQ12 N)

abbrev TSQ104 : Type := Fl -> Fl -> Fl -> Fl -> Fl -> Fl -> Fl -> Fl -> (Fl -> Fl -> Fl -> Fl -> Int -> Bool) -> Bool

def GQ104 (N : Nat) (SQ157 : TSQ157) (a_0 a_1 a_2 a_3 b_0 b_1 b_2 b_3 : Fl) (k0 : Fl -> Fl -> Fl -> Fl -> Int -> Bool) : Bool :=
  (SQ157 a_0 a_1 a_2 a_3 b_0 b_1 b_2 b_3 (fun xr nr => (cond (nr != 0) (k0 (some 0) (some 0) (some 0) (some 0) nr) (cond (flt xr (some 0)) (k0 (fneg b_0) (fneg b_1) (fneg b_2) (fneg b_3) 0) (k0 b_0 b_1 b_2 b_3 0)))))

def sQ104 (N : Nat) : TSQ104 := GQ104 N (sQ157 N)

abbrev TSQ71 : Type := Fl -> Fl -> Fl -> Fl -> Fl -> Fl -> Fl -> Fl -> Fl -> (Fl -> Fl -> Fl -> Fl -> Int -> Bool) -> Bool

def GQ71 (N : Nat) (SQ59 : TSQ59) (SQ12 : TSQ12) (SQ104 : TSQ104) (SQ26 : TSQ26) (SQ108 : TSQ108) (SQ72 : TSQ72) (SQ13 : TSQ13) (a_0 a_1 a_2 a_3 b_0 b_1 b_2 b_3 t : Fl) (k0 : Fl -> Fl -> Fl -> Fl -> Int -> Bool) : Bool :=
  (SQ59 a_0 a_1 a_2 a_3 b_0 b_1 b_2 b_3 (fun cr => (cond ((!cr) == false) (SQ12 [t] (fun cr_1 => (cond (!cr_1) (k0 (some 0) (some 0) (some 0) (some 0) 4) (SQ104 a_0 a_1 a_2 a_3 b_0 b_1 b_2 b_3 (fun xr xr_1 xr_2 xr_3 nr => (cond (nr != 0) (k0 (some 0) (some 0) (some 0) (some 0) nr) (SQ26 a_0 a_1 a_2 a_3 (SQ26 xr xr_1 xr_2 xr_3 (SQ108 (fadd (fmul (fsub (some 4607182418800017408) t) a_0) (fmul t xr)) (fadd (fmul (fsub (some 4607182418800017408) t) a_1) (fmul t xr_1)) (fadd (fmul (fsub (some 4607182418800017408) t) a_2) (fmul t xr_2)) (fadd (fmul (fsub (some 4607182418800017408) t) a_3) (fmul t xr_3)) (SQ72 (fadd (fmul (fsub (some 4607182418800017408) t) a_0) (fmul t xr)) (fadd (fmul (fsub (some 4607182418800017408) t) a_1) (fmul t xr_1)) (fadd (fmul (fsub (some 4607182418800017408) t) a_2) (fmul t xr_2)) (fadd (fmul (fsub (some 4607182418800017408) t) a_3) (fmul t xr_3)) (fun xr_4 xr_5 xr_6 xr_7 nr_1 => (cond (nr_1 != 0) (k0 xr_4 xr_5 xr_6 xr_7 nr_1) (SQ108 (fadd (fmul (fsub (some 4607182418800017408) t) a_0) (fmul t xr)) (fadd (fmul (fsub (some 4607182418800017408) t) a_1) (fmul t xr_1)) (fadd (fmul (fsub (some 4607182418800017408) t) a_2) (fmul t xr_2)) (fadd (fmul (fsub (some 4607182418800017408) t) a_3) (fmul t xr_3)) (SQ13 (fadd (fmul (fsub (some 4607182418800017408) t) a_0) (fmul t xr)) (fadd (fmul (fsub (some 4607182418800017408) t) a_1) (fmul t xr_1)) (fadd (fmul (fsub (some 4607182418800017408) t) a_2) (fmul t xr_2)) (fadd (fmul (fsub (some 4607182418800017408) t) a_3) (fmul t xr_3)) (fun xr_8 xr_9 xr_10 xr_11 nr_2 => (k0 xr_8 xr_9 xr_10 xr_11 nr_2)))))))))))))))) (k0 (some 0) (some 0) (some 0) (some 0) 4))))

def sQ71 (N : Nat) : TSQ71 := GQ71 (N + 24) (sQ59 N) (sQ12 N) (sQ104 N) (sQ26 N) (sQ108 N) (sQ72 N) (sQ13 N)

abbrev TSQ43 : Type := Int -> Int -> Int -> Int -> Int -> Int -> Int -> Int -> Int -> Int -> Int -> Int -> Int -> Int -> Int -> Int -> List Int -> Int -> (Bool -> Bool) -> Bool

def JQ172 (N : Nat) (SQ9 : TSQ9) (SQ5 : TSQ5) (SQ13 : TSQ13) (SQ4 : TSQ4) (SQ54 : TSQ54) (SQ10 : TSQ10) (SQ56 : TSQ56) (SQ7 : TSQ7) (SQ42 : TSQ42) (SQ28 : TSQ28) (SQ11 : TSQ11) (SQ71 : TSQ71) (x_0 x_1 x_2 x_3 y_0 y_1 y_2 y_3 u_0 u_1 u_2 v_0 v_1 v_2 m_0 m_1 : Int) (m_2 : List Int) (t : Int) (a_16 a_17 a_18 a_19 b_16 b_17 b_18 b_19 : Fl) (k0 : Bool -> Bool) : Bool :=
  (SQ11 t (fun xr_53 => (SQ71 a_16 a_17 a_18 a_19 b_16 b_17 b_18 b_19 xr_53 (fun xr_54 xr_55 xr_56 xr_57 nr_9 => (cond ((nr_9 != 0) == false) (SQ4 xr_54 xr_55 xr_56 xr_57 (fun cr_10 => (k0 cr_10))) (k0 true))))))

def JQ161 (N : Nat) (SQ9 : TSQ9) (SQ5 : TSQ5) (SQ13 : TSQ13) (SQ4 : TSQ4) (SQ54 : TSQ54) (SQ10 : TSQ10) (SQ56 : TSQ56) (SQ7 : TSQ7) (SQ42 : TSQ42) (SQ28 : TSQ28) (SQ11 : TSQ11) (SQ71 : TSQ71) (x_0 x_1 x_2 x_3 y_0 y_1 y_2 y_3 u_0 u_1 u_2 v_0 v_1 v_2 m_0 m_1 : Int) (m_2 : List Int) (t : Int) (a_12 a_13 a_14 a_15 b_12 b_13 b_14 b_15 : Fl) (k0 : Bool -> Bool) : Bool :=
  (SQ7 u_0 u_1 u_2 (fun xr_43 xr_44 xr_45 => (SQ7 v_0 v_1 v_2 (fun xr_46 xr_47 xr_48 => (SQ28 xr_43 xr_44 xr_45 xr_46 xr_47 xr_48 (fun xr_49 xr_50 xr_51 xr_52 nr_8 => (cond ((nr_8 == 0) == true) (SQ4 xr_49 xr_50 xr_51 xr_52 (fun cr_9 => (cond (!cr_9) (k0 false) (JQ172 N SQ9 SQ5 SQ13 SQ4 SQ54 SQ10 SQ56 SQ7 SQ42 SQ28 SQ11 SQ71 x_0 x_1 x_2 x_3 y_0 y_1 y_2 y_3 u_0 u_1 u_2 v_0 v_1 v_2 m_0 m_1 m_2 t a_12 a_13 a_14 a_15 b_12 b_13 b_14 b_15 k0)))) (JQ172 N SQ9 SQ5 SQ13 SQ4 SQ54 SQ10 SQ56 SQ7 SQ42 SQ28 SQ11 SQ71 x_0 x_1 x_2 x_3 y_0 y_1 y_2 y_3 u_0 u_1 u_2 v_0 v_1 v_2 m_0 m_1 m_2 t a_12 a_13 a_14 a_15 b_12 b_13 b_14 b_15 k0))))))))

def JQ160 (N : Nat) (SQ9 : TSQ9) (SQ5 : TSQ5) (SQ13 : TSQ13) (SQ4 : TSQ4) (SQ54 : TSQ54) (SQ10 : TSQ10) (SQ56 : TSQ56) (SQ7 : TSQ7) (SQ42 : TSQ42) (SQ28 : TSQ28) (SQ11 : TSQ11) (SQ71 : TSQ71) (x_0 x_1 x_2 x_3 y_0 y_1 y_2 y_3 u_0 u_1 u_2 v_0 v_1 v_2 m_0 m_1 : Int) (m_2 : List Int) (t : Int) (a_8 a_9 a_10 a_11 b_8 b_9 b_10 b_11 : Fl) (k0 : Bool -> Bool) : Bool :=
  (SQ7 u_0 u_1 u_2 (fun xr_36 xr_37 xr_38 => (SQ42 xr_36 xr_37 xr_38 (fun xr_39 xr_40 xr_41 xr_42 nr_7 => (cond ((nr_7 == 0) == true) (SQ4 xr_39 xr_40 xr_41 xr_42 (fun cr_8 => (cond (!cr_8) (k0 false) (JQ161 N SQ9 SQ5 SQ13 SQ4 SQ54 SQ10 SQ56 SQ7 SQ42 SQ28 SQ11 SQ71 x_0 x_1 x_2 x_3 y_0 y_1 y_2 y_3 u_0 u_1 u_2 v_0 v_1 v_2 m_0 m_1 m_2 t a_8 a_9 a_10 a_11 b_8 b_9 b_10 b_11 k0)))) (JQ161 N SQ9 SQ5 SQ13 SQ4 SQ54 SQ10 SQ56 SQ7 SQ42 SQ28 SQ11 SQ71 x_0 x_1 x_2 x_3 y_0 y_1 y_2 y_3 u_0 u_1 u_2 v_0 v_1 v_2 m_0 m_1 m_2 t a_8 a_9 a_10 a_11 b_8 b_9 b_10 b_11 k0))))))

def JQ159 (N : Nat) (SQ9 : TSQ9) (SQ5 : TSQ5) (SQ13 : TSQ13) (SQ4 : TSQ4) (SQ54 : TSQ54) (SQ10 : TSQ10) (SQ56 : TSQ56) (SQ7 : TSQ7) (SQ42 : TSQ42) (SQ28 : TSQ28) (SQ11 : TSQ11) (SQ71 : TSQ71) (x_0 x_1 x_2 x_3 y_0 y_1 y_2 y_3 u_0 u_1 u_2 v_0 v_1 v_2 m_0 m_1 : Int) (m_2 : List Int) (t : Int) (a_4 a_5 a_6 a_7 b_4 b_5 b_6 b_7 : Fl) (k0 : Bool -> Bool) : Bool :=
  (SQ10 m_0 m_1 m_2 (fun xsr => (SQ56 m_0 m_1 xsr (fun xr_32 xr_33 xr_34 xr_35 nr_6 => (cond ((nr_6 == 0) == true) (SQ4 xr_32 xr_33 xr_34 xr_35 (fun cr_7 => (cond (!cr_7) (k0 false) (JQ160 N SQ9 SQ5 SQ13 SQ4 SQ54 SQ10 SQ56 SQ7 SQ42 SQ28 SQ11 SQ71 x_0 x_1 x_2 x_3 y_0 y_1 y_2 y_3 u_0 u_1 u_2 v_0 v_1 v_2 m_0 m_1 m_2 t a_4 a_5 a_6 a_7 b_4 b_5 b_6 b_7 k0)))) (JQ160 N SQ9 SQ5 SQ13 SQ4 SQ54 SQ10 SQ56 SQ7 SQ42 SQ28 SQ11 SQ71 x_0 x_1 x_2 x_3 y_0 y_1 y_2 y_3 u_0 u_1 u_2 v_0 v_1 v_2 m_0 m_1 m_2 t a_4 a_5 a_6 a_7 b_4 b_5 b_6 b_7 k0))))))

def JQ158 (N : Nat) (SQ9 : TSQ9) (SQ5 : TSQ5) (SQ13 : TSQ13) (SQ4 : TSQ4) (SQ54 : TSQ54) (SQ10 : TSQ10) (SQ56 : TSQ56) (SQ7 : TSQ7) (SQ42 : TSQ42) (SQ28 : TSQ28) (SQ11 : TSQ11) (SQ71 : TSQ71) (x_0 x_1 x_2 x_3 y_0 y_1 y_2 y_3 u_0 u_1 u_2 v_0 v_1 v_2 m_0 m_1 : Int) (m_2 : List Int) (t : Int) (a a_1 a_2 a_3 b b_1 b_2 b_3 : Fl) (k0 : Bool -> Bool) : Bool :=
  (SQ54 a a_1 a_2 a_3 b b_1 b_2 b_3 (fun xr_12 xr_13 xr_14 xr_15 nr_1 => (cond (nr_1 == 0) (SQ4 xr_12 xr_13 xr_14 xr_15 (fun cr_2 => (cond (!cr_2) (k0 false) (SQ54 xr_12 xr_13 xr_14 xr_15 xr_12 xr_13 xr_14 xr_15 (fun xr_16 xr_17 xr_18 xr_19 nr_2 => (cond ((nr_2 != 0) == false) (SQ4 xr_16 xr_17 xr_18 xr_19 (fun cr_3 => (cond (!cr_3) (k0 false) (SQ54 xr_16 xr_17 xr_18 xr_19 xr_16 xr_17 xr_18 xr_19 (fun xr_20 xr_21 xr_22 xr_23 nr_3 => (cond ((nr_3 != 0) == false) (SQ4 xr_20 xr_21 xr_22 xr_23 (fun cr_4 => (cond (!cr_4) (k0 false) (SQ54 xr_20 xr_21 xr_22 xr_23 xr_20 xr_21 xr_22 xr_23 (fun xr_24 xr_25 xr_26 xr_27 nr_4 => (cond ((nr_4 != 0) == false) (SQ4 xr_24 xr_25 xr_26 xr_27 (fun cr_5 => (cond (!cr_5) (k0 false) (SQ54 xr_24 xr_25 xr_26 xr_27 xr_24 xr_25 xr_26 xr_27 (fun xr_28 xr_29 xr_30 xr_31 nr_5 => (cond ((nr_5 != 0) == false) (SQ4 xr_28 xr_29 xr_30 xr_31 (fun cr_6 => (cond (!cr_6) (k0 false) (JQ159 N SQ9 SQ5 SQ13 SQ4 SQ54 SQ10 SQ56 SQ7 SQ42 SQ28 SQ11 SQ71 x_0 x_1 x_2 x_3 y_0 y_1 y_2 y_3 u_0 u_1 u_2 v_0 v_1 v_2 m_0 m_1 m_2 t a a_1 a_2 a_3 b b_1 b_2 b_3 k0)))) (k0 false))))))) (k0 false))))))) (k0 false))))))) (k0 false))))))) (JQ159 N SQ9 SQ5 SQ13 SQ4 SQ54 SQ10 SQ56 SQ7 SQ42 SQ28 SQ11 SQ71 x_0 x_1 x_2 x_3 y_0 y_1 y_2 y_3 u_0 u_1 u_2 v_0 v_1 v_2 m_0 m_1 m_2 t a a_1 a_2 a_3 b b_1 b_2 b_3 k0))))

def GQ43 (N : Nat) (SQ9 : TSQ9) (SQ5 : TSQ5) (SQ13 : TSQ13) (SQ4 : TSQ4) (SQ54 : TSQ54) (SQ10 : TSQ10) (SQ56 : TSQ56) (SQ7 : TSQ7) (SQ42 : TSQ42) (SQ28 : TSQ28) (SQ11 : TSQ11) (SQ71 : TSQ71) (x_0 x_1 x_2 x_3 y_0 y_1 y_2 y_3 u_0 u_1 u_2 v_0 v_1 v_2 m_0 m_1 : Int) (m_2 : List Int) (t : Int) (k0 : Bool -> Bool) : Bool :=
  (SQ9 (fun cr => (cond (!cr) (k0 false) (SQ5 x_0 x_1 x_2 x_3 (fun xr xr_1 xr_2 xr_3 => (SQ5 y_0 y_1 y_2 y_3 (fun xr_4 xr_5 xr_6 xr_7 => (SQ13 xr xr_1 xr_2 xr_3 (fun xr_8 xr_9 xr_10 xr_11 nr => (cond ((nr == 0) == true) (SQ4 xr_8 xr_9 xr_10 xr_11 (fun cr_1 => (cond (!cr_1) (k0 false) (JQ158 N SQ9 SQ5 SQ13 SQ4 SQ54 SQ10 SQ56 SQ7 SQ42 SQ28 SQ11 SQ71 x_0 x_1 x_2 x_3 y_0 y_1 y_2 y_3 u_0 u_1 u_2 v_0 v_1 v_2 m_0 m_1 m_2 t xr xr_1 xr_2 xr_3 xr_4 xr_5 xr_6 xr_7 k0)))) (JQ158 N SQ9 SQ5 SQ13 SQ4 SQ54 SQ10 SQ56 SQ7 SQ42 SQ28 SQ11 SQ71 x_0 x_1 x_2 x_3 y_0 y_1 y_2 y_3 u_0 u_1 u_2 v_0 v_1 v_2 m_0 m_1 m_2 t xr xr_1 xr_2 xr_3 xr_4 xr_5 xr_6 xr_7 k0)))))))))))

def sQ43 (N : Nat) : TSQ43 := GQ43 (N + 24) (sQ9 N) (sQ5 N) (sQ13 N) (sQ4 N) (sQ54 N) (sQ10 N) (sQ56 N) (sQ7 N) (sQ42 N) (sQ28 N) (sQ11 N) (sQ71 N)

end Go.Proofs.YtnfgnjciliapaaaGreatDoor
