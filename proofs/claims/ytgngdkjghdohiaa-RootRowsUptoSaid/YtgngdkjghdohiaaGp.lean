/-
  THE PROGRAM's FUNCTIONS, as their meanings (written by program).
  Conditions: none.
-/
import Derived.Test.YtgngdkjghdohiaaMachT
import Derived.Test.YtgngdkjghdohiaaProg
section
namespace Go.Proofs.Ytgngdkjghdohiaa
open Go Go.Mach
set_option linter.unusedVariables false

abbrev RT0 : RT := (.pair (.ints .u64) (.pair (.int .u64) (.int .u64)))
abbrev RY0 : Type := List Int × Int × Int

abbrev RT1 : RT := (.pair .flt (.pair .flt (.pair .flt .fls)))
abbrev RY1 : Type := Fl × Fl × Fl × List Fl

abbrev TSq54 : Type := Nat -> (Int -> Bool) -> Bool

def sq54 (N : Nat) : TSq54 := fun n k => k n

abbrev TS_an_of : Type := (Int -> Int -> Int -> Bool) -> Bool

def G_an_of (N : Nat) (k0 : Int -> Int -> Int -> Bool) : Bool :=
  (k0 52 2047 1075)

def s_an_of (N : Nat) : TS_an_of := G_an_of N

abbrev TSq56 : Type := Int -> Int -> Int -> (Int -> Bool) -> Bool

def Gq56 (N : Nat) (f_0 f_1 f_2 : Int) (k0 : Int -> Bool) : Bool :=
  ((fits .i64 (f_1 + 1)) && ((decide (0 <= f_0)) && (k0 (IntKind.wrap .u64 ((IntKind.wrap .u64 (f_1 + 1)) * 2 ^ (min (Int.toNat f_0) 64))))))

def sq56 (N : Nat) : TSq56 := Gq56 N

abbrev TSq29 : Type := Int -> Int -> Int -> (Int -> Bool) -> Bool

def Gq29 (N : Nat) (f_0 f_1 f_2 : Int) (k0 : Int -> Bool) : Bool :=
  ((decide (0 <= f_0)) && (k0 (IntKind.wrap .u64 ((IntKind.wrap .u64 f_1) * 2 ^ (min (Int.toNat f_0) 64)))))

def sq29 (N : Nat) : TSq29 := Gq29 N

abbrev TSq28 : Type := Int -> Int -> Int -> Int -> (Bool -> Bool) -> Bool

def Gq28 (N : Nat) (Sq56 : TSq56) (Sq29 : TSq29) (b f_0 f_1 f_2 : Int) (k0 : Bool -> Bool) : Bool :=
  (Sq56 f_0 f_1 f_2 (fun nr => (Sq29 f_0 f_1 f_2 (fun nr_1 => (k0 (decide ((bitsN .andNot .u64 b nr) > nr_1)))))))

def sq28 (N : Nat) : TSq28 := Gq28 N (sq56 N) (sq29 N)

abbrev TSq35 : Type := Int -> Int -> Int -> (Int -> Bool) -> Bool

def Gq35 (N : Nat) (f_0 f_1 f_2 : Int) (k0 : Int -> Bool) : Bool :=
  ((decide (0 <= f_0)) && (k0 (IntKind.wrap .u64 ((1 : Int) * 2 ^ (min (Int.toNat f_0) 64)))))

def sq35 (N : Nat) : TSq35 := Gq35 N

abbrev TSq63 : Type := Int -> Int -> Int -> (Int -> Bool) -> Bool

def Gq63 (N : Nat) (Sq29 : TSq29) (Sq35 : TSq35) (f_0 f_1 f_2 : Int) (k0 : Int -> Bool) : Bool :=
  (Sq29 f_0 f_1 f_2 (fun nr => (Sq35 f_0 f_1 f_2 (fun nr_1 => (k0 (bitsN .or .u64 (bitsN .or .u64 nr (Int.fdiv nr_1 (2 ^ 1))) (IntKind.wrap .u64 (Int.tdiv f_0 52))))))))

def sq63 (N : Nat) : TSq63 := Gq63 N (sq29 N) (sq35 N)

abbrev TSq11 : Type := Int -> Int -> Int -> Int -> (Int -> Bool) -> Bool

def Gq11 (N : Nat) (Sq28 : TSq28) (Sq63 : TSq63) (b f_0 f_1 f_2 : Int) (k0 : Int -> Bool) : Bool :=
  (Sq28 b f_0 f_1 f_2 (fun cr => (cond cr (Sq63 f_0 f_1 f_2 (fun nr => (k0 nr))) (k0 b))))

def sq11 (N : Nat) : TSq11 := Gq11 N (sq28 N) (sq63 N)

abbrev TSq18 : Type := Int -> Int -> Int -> Int -> (Bool -> Int -> Int -> Bool) -> Bool

def Gq18 (N : Nat) (Sq11 : TSq11) (Sq56 : TSq56) (Sq35 : TSq35) (b f_0 f_1 f_2 : Int) (k0 : Bool -> Int -> Int -> Bool) : Bool :=
  (Sq11 b f_0 f_1 f_2 (fun nr => (Sq56 f_0 f_1 f_2 (fun nr_1 => ((decide (0 <= f_0)) && ((fits .i64 (bitsN .and .u64 (Int.fdiv nr (2 ^ (min (Int.toNat f_0) 64))) (IntKind.wrap .u64 f_1))) && (Sq35 f_0 f_1 f_2 (fun nr_2 => (k0 ((bitsN .and .u64 nr nr_1) != 0) (bitsN .and .u64 (Int.fdiv nr (2 ^ (min (Int.toNat f_0) 64))) (IntKind.wrap .u64 f_1)) (bitsN .and .u64 nr (IntKind.wrap .u64 (nr_2 - 1))))))))))))

def sq18 (N : Nat) : TSq18 := Gq18 N (sq11 N) (sq56 N) (sq35 N)

abbrev TSq17 : Type := Int -> Int -> Int -> Int -> (Int -> Bool) -> Bool

def Gq17 (N : Nat) (Sq18 : TSq18) (b f_0 f_1 f_2 : Int) (k0 : Int -> Bool) : Bool :=
  (Sq18 b f_0 f_1 f_2 (fun cr nr nr_1 => (cond ((nr == f_1) == true) (cond (nr_1 != 0) (k0 1) (cond (nr == f_1) (k0 2) (cond ((nr == 0) == true) (cond (nr_1 == 0) (k0 3) (cond (nr == 0) (k0 4) (k0 5))) (cond (nr == 0) (k0 4) (k0 5))))) (cond (nr == f_1) (k0 2) (cond ((nr == 0) == true) (cond (nr_1 == 0) (k0 3) (cond (nr == 0) (k0 4) (k0 5))) (cond (nr == 0) (k0 4) (k0 5)))))))

def sq17 (N : Nat) : TSq17 := Gq17 N (sq18 N)

abbrev TSq59 : Type := Nat -> (Int -> Bool) -> Bool

def Gq59 (N : Nat) (Sq54 : TSq54) (S_an_of : TS_an_of) (Sq17 : TSq17) (x : Nat) (k0 : Int -> Bool) : Bool :=
  (Sq54 x (fun nr => (S_an_of (fun nr_1 nr_2 nr_3 => (Sq17 nr nr_1 nr_2 nr_3 (fun nr_4 => (k0 nr_4)))))))

def sq59 (N : Nat) : TSq59 := Gq59 N (sq54 N) (s_an_of N) (sq17 N)

abbrev TSq60 : Type := Nat -> Nat -> (Bool -> Bool) -> Bool

def Gq60 (N : Nat) (Sq54 : TSq54) (S_an_of : TS_an_of) (Sq11 : TSq11) (a b : Nat) (k0 : Bool -> Bool) : Bool :=
  (Sq54 a (fun nr => (S_an_of (fun nr_1 nr_2 nr_3 => (Sq11 nr nr_1 nr_2 nr_3 (fun nr_4 => (Sq54 b (fun n5 => (S_an_of (fun n6 n7 n8 => (Sq11 n5 n6 n7 n8 (fun n9 => (k0 (nr_4 == n9))))))))))))))

def sq60 (N : Nat) : TSq60 := Gq60 N (sq54 N) (s_an_of N) (sq11 N)

abbrev TSq62 : Type := Int -> (Fl -> Bool) -> Bool

def sq62 (N : Nat) : TSq62 := fun n k => k (canon n.toNat)

abbrev TSq57 : Type := List Int -> (List Fl -> Bool) -> Bool

def st_z01_Of64_0 (N : Nat) (Sq62 : TSq62) (t6_1 : List Int) (t7_1 : Int) (e0 : List Fl -> Bool) : (Int × List Fl) -> ((Int × List Fl) -> Bool) -> Bool := fun v_ K => match v_ with
  | (t8_1, x) => (cond (decide (t8_1 < t7_1)) ((inR t8_1 (List.length t6_1)) && (Sq62 (List.getD t6_1 (Int.toNat t8_1) 0) (fun xr_1 => ((decide ((List.length (x ++ [xr_1])) * 8 <= 140737488355328)) && ((fits .i64 (t8_1 + 1)) && (K ((t8_1 + 1), (x ++ [xr_1])))))))) (e0 x))

def Gq57 (N : Nat) (Sq62 : TSq62) (l : List Int) (k0 : List Fl -> Bool) : Bool :=
  (iterG N (st_z01_Of64_0 N Sq62 l (((List.length l) : Nat) : Int) (fun x_1 => (k0 x_1))) (0, []))

def sq57 (N : Nat) : TSq57 := Gq57 N (sq62 N)

abbrev TS_zk_l : Type := List Int -> (List Fl -> Bool) -> Bool

def G_zk_l (N : Nat) (Sq57 : TSq57) (b : List Int) (k0 : List Fl -> Bool) : Bool :=
  (Sq57 b (fun xsr => (k0 xsr)))

def s_zk_l (N : Nat) : TS_zk_l := G_zk_l N (sq57 N)

abbrev TS_zk_f : Type := Int -> (Fl -> Bool) -> Bool

def G_zk_f (N : Nat) (Sq62 : TSq62) (b : Int) (k0 : Fl -> Bool) : Bool :=
  (Sq62 b (fun xr => (k0 xr)))

def s_zk_f (N : Nat) : TS_zk_f := G_zk_f N (sq62 N)

abbrev TSq44 : Type := List RY0 -> Int -> (Int -> List Fl -> List Fl -> List Fl -> Bool) -> Bool

def st_zk_rows_0 (N : Nat) (S_zk_l : TS_zk_l) (S_zk_f : TS_zk_f) (w_4 : List RY0) (t4_6 t4_7 h_6 h_7 : Int) (e0 : List Fl -> List Fl -> List Fl -> Bool) : (Int × List Fl × List Fl × List Fl) -> ((Int × List Fl × List Fl × List Fl) -> Bool) -> Bool := fun v_ K => match v_ with
  | (i_3, r_2, z_1, b4) => (cond (decide (i_3 < (((List.length w_4) : Nat) : Int))) ((inR i_3 (List.length w_4)) && (S_zk_l (List.getD w_4 (Int.toNat i_3) ([], (0, 0))).1 (fun xsr_3 => ((decide ((List.length (b4 ++ xsr_3)) * 8 <= 140737488355328)) && ((inR i_3 (List.length w_4)) && (S_zk_f (List.getD w_4 (Int.toNat i_3) ([], (0, 0))).2.1 (fun xr_6 => ((decide ((List.length (r_2 ++ [xr_6])) * 8 <= 140737488355328)) && ((inR i_3 (List.length w_4)) && (S_zk_f (List.getD w_4 (Int.toNat i_3) ([], (0, 0))).2.2 (fun xr_7 => ((decide ((List.length (z_1 ++ [xr_7])) * 8 <= 140737488355328)) && ((fits .i64 (i_3 + 1)) && (K ((i_3 + 1), (r_2 ++ [xr_6]), (z_1 ++ [xr_7]), (b4 ++ xsr_3)))))))))))))))) (e0 r_2 z_1 b4))

def Gq44 (N : Nat) (S_zk_l : TS_zk_l) (S_zk_f : TS_zk_f) (w : List RY0) (n : Int) (k0 : Int -> List Fl -> List Fl -> List Fl -> Bool) : Bool :=
  (iterG N (st_zk_rows_0 N S_zk_l S_zk_f w 0 0 (((List.length w) : Nat) : Int) n (fun r_3 z_2 b4_1 => (k0 (((List.length w) : Nat) : Int) b4_1 r_3 z_2))) (0, [], [], []))

def sq44 (N : Nat) : TSq44 := Gq44 N (s_zk_l N) (s_zk_f N)

abbrev TSq65 : Type := Int -> Int -> List Int -> (List Fl -> Bool) -> Bool

def Gq65 (N : Nat) (S_zk_l : TS_zk_l) (m_0 m_1 : Int) (m_2 : List Int) (k0 : List Fl -> Bool) : Bool :=
  (S_zk_l m_2 (fun xsr => (k0 xsr)))

def sq65 (N : Nat) : TSq65 := Gq65 N (s_zk_l N)

abbrev TS_zk_of : Type := List Int -> Int -> Int -> List Int -> (List Fl -> List Fl -> Bool) -> Bool

def G_zk_of (N : Nat) (S_zk_l : TS_zk_l) (Sq65 : TSq65) (x : List Int) (m_0 m_1 : Int) (m_2 : List Int) (k0 : List Fl -> List Fl -> Bool) : Bool :=
  (S_zk_l x (fun xsr => (Sq65 m_0 m_1 m_2 (fun xsr_1 => (k0 xsr xsr_1)))))

def s_zk_of (N : Nat) : TS_zk_of := G_zk_of N (s_zk_l N) (sq65 N)

abbrev TSq24 : Type := Int -> (Bool -> Bool) -> Bool

def Gq24 (N : Nat) (n : Int) (k0 : Bool -> Bool) : Bool :=
  (cond ((decide (n >= 0)) == true) (k0 (decide (n <= 12))) (k0 false))

def sq24 (N : Nat) : TSq24 := Gq24 N

abbrev TSq48 : Type := Fl -> (Int -> Bool) -> Bool

def sq48 (N : Nat) : TSq48 := fun x k => k (clsF x)

abbrev TSq2 : Type := List Fl -> (Bool -> Bool) -> Bool

def st_an_Finite_0 (N : Nat) (Sq48 : TSq48) (t6 : List Fl) (t7 : Int) (e0 : Bool -> Bool) (e1 : Bool) : (Int) -> ((Int) -> Bool) -> Bool := fun v_ K => match v_ with
  | t8 => (cond (decide (t8 < t7)) ((inR t8 (List.length t6)) && (Sq48 (List.getD t6 (Int.toNat t8) none) (fun nr => (cond ((nr == 1) == false) (cond (nr == 2) (e0 false) ((fits .i64 (t8 + 1)) && (K (t8 + 1)))) (e0 false))))) e1)

def Gq2 (N : Nat) (Sq48 : TSq48) (l : List Fl) (k0 : Bool -> Bool) : Bool :=
  (iterG N (st_an_Finite_0 N Sq48 l (((List.length l) : Nat) : Int) (fun t2 => (k0 t2)) (k0 true)) 0)

def sq2 (N : Nat) : TSq2 := Gq2 N (sq48 N)

abbrev TSq0 : Type := Int -> Int -> List Fl -> (Int -> Bool) -> Bool

def Gq0 (N : Nat) (Sq24 : TSq24) (Sq2 : TSq2) (m_0 m_1 : Int) (m_2 : List Fl) (k0 : Int -> Bool) : Bool :=
  (Sq24 m_0 (fun cr => (cond ((!cr) == false) (Sq24 m_1 (fun cr_1 => (cond (!cr_1) (k0 1) ((fits .i64 (m_0 * m_1)) && (cond ((((List.length m_2) : Nat) : Int) != (m_0 * m_1)) (k0 3) (Sq2 m_2 (fun cr_2 => (cond (!cr_2) (k0 4) (k0 0))))))))) (k0 1))))

def sq0 (N : Nat) : TSq0 := Gq0 N (sq24 N) (sq2 N)

abbrev TSq27 : Type := Int -> Int -> List Fl -> Int -> Int -> (Fl -> Bool) -> Bool

def Gq27 (N : Nat) (m_0 m_1 : Int) (m_2 : List Fl) (i j : Int) (k0 : Fl -> Bool) : Bool :=
  ((fits .i64 (i * m_1)) && ((fits .i64 ((i * m_1) + j)) && ((inR ((i * m_1) + j) (List.length m_2)) && (k0 (List.getD m_2 (Int.toNat ((i * m_1) + j)) none)))))

def sq27 (N : Nat) : TSq27 := Gq27 N

abbrev TSq46 : Type := Fl -> Fl -> (Bool -> Bool) -> Bool

def sq46 (N : Nat) : TSq46 := fun x y k => k (decide (cn x = cn y))

abbrev TSq12 : Type := Int -> Int -> List Fl -> (Bool -> Bool) -> Bool

def stq72 (N : Nat) (Sq0 : TSq0) (Sq27 : TSq27) (Sq46 : TSq46) (i t16_1 t17_1 m_5 m_6 : Int) (m_7 : List Fl) (e0 : Bool -> Bool) (e1 : Bool) : (Int) -> ((Int) -> Bool) -> Bool := fun v_ K => match v_ with
  | j => (cond (decide (j < m_6)) (Sq27 m_5 m_6 m_7 i j (fun xr => (Sq46 xr (some 0) (fun cr => (cond (!cr) (e0 false) ((fits .i64 (j + 1)) && (K (j + 1)))))))) e1)

def stq79 (N : Nat) (Sq0 : TSq0) (Sq27 : TSq27) (Sq46 : TSq46) (t16 m m_3 : Int) (m_4 : List Fl) (e0 : Bool -> Bool) (e1 : Bool) : (Int) -> ((Int) -> Bool) -> Bool := fun v_ K => match v_ with
  | t17 => (cond (decide (t17 < t16)) ((fits .i64 (t17 + 1)) && (iterG N (stq72 N Sq0 Sq27 Sq46 t17 t16 t17 m m_3 m_4 (fun t2 => (e0 t2)) ((fits .i64 (t17 + 1)) && (K (t17 + 1)))) (t17 + 1))) e1)

def Gq12 (N : Nat) (Sq0 : TSq0) (Sq27 : TSq27) (Sq46 : TSq46) (m_0 m_1 : Int) (m_2 : List Fl) (k0 : Bool -> Bool) : Bool :=
  (Sq0 m_0 m_1 m_2 (fun nr => (cond ((nr != 0) == false) (cond (m_0 != m_1) (k0 false) (iterG N (stq79 N Sq0 Sq27 Sq46 m_0 m_0 m_1 m_2 (fun t2_1 => (k0 t2_1)) (k0 true)) 0)) (k0 false))))

def sq12 (N : Nat) : TSq12 := Gq12 N (sq0 N) (sq27 N) (sq46 N)

abbrev TS_root_above : Type := Int -> Int -> List Fl -> (Bool -> Bool) -> Bool

def st_root_above_0 (N : Nat) (t5 l l_3 : Int) (l_4 : List Fl) (e0 : Bool -> Bool) (e1 : Bool) : (Int) -> ((Int) -> Bool) -> Bool := fun v_ K => match v_ with
  | t6 => (cond (decide (t6 < t5)) ((fits .i64 (t6 * l_3)) && ((fits .i64 ((t6 * l_3) + t6)) && ((inR ((t6 * l_3) + t6) (List.length l_4)) && (cond (!(fgt (List.getD l_4 (Int.toNat ((t6 * l_3) + t6)) none) (some 0))) (e0 false) ((fits .i64 (t6 + 1)) && (K (t6 + 1))))))) e1)

def G_root_above (N : Nat) (l_0 l_1 : Int) (l_2 : List Fl) (k0 : Bool -> Bool) : Bool :=
  (iterG N (st_root_above_0 N l_0 l_0 l_1 l_2 (fun t2 => (k0 t2)) (k0 true)) 0)

def s_root_above (N : Nat) : TS_root_above := G_root_above N

abbrev TS_root_Check : Type := List Fl -> Int -> Int -> List Fl -> (Int -> Bool) -> Bool

def G_root_Check (N : Nat) (Sq0 : TSq0) (Sq2 : TSq2) (Sq12 : TSq12) (S_root_above : TS_root_above) (s_0 : List Fl) (s_1 s_2 : Int) (s_3 : List Fl) (k0 : Int -> Bool) : Bool :=
  (Sq0 s_1 s_2 s_3 (fun nr => (cond (nr != 0) (k0 nr) (cond ((s_1 != s_2) == false) (cond ((((List.length s_0) : Nat) : Int) != s_1) (k0 3) (Sq2 s_0 (fun cr => (cond (!cr) (k0 4) (Sq12 s_1 s_2 s_3 (fun cr_1 => (cond ((!cr_1) == false) (S_root_above s_1 s_2 s_3 (fun cr_2 => (cond (!cr_2) (k0 93) (k0 0)))) (k0 93)))))))) (k0 3)))))

def s_root_Check (N : Nat) : TS_root_Check := G_root_Check N (sq0 N) (sq2 N) (sq12 N) (s_root_above N)

abbrev TS_root_finite : Type := Fl -> (Bool -> Bool) -> Bool

def G_root_finite (N : Nat) (x : Fl) (k0 : Bool -> Bool) : Bool :=
  (k0 (feq (fsub x x) (some 0)))

def s_root_finite (N : Nat) : TS_root_finite := G_root_finite N

abbrev TS_root_checkRow : Type := Int -> List Fl -> Fl -> (Int -> Bool) -> Bool

def G_root_checkRow (N : Nat) (Sq2 : TSq2) (S_root_finite : TS_root_finite) (n : Int) (h : List Fl) (r : Fl) (k0 : Int -> Bool) : Bool :=
  (cond ((((List.length h) : Nat) : Int) != n) (k0 3) (Sq2 h (fun cr => (cond ((!cr) == false) (S_root_finite r (fun cr_1 => (cond (!cr_1) (k0 4) (cond (!(fgt r (some 0))) (k0 152) (k0 0))))) (k0 4)))))

def s_root_checkRow (N : Nat) : TS_root_checkRow := G_root_checkRow N (sq2 N) (s_root_finite N)

abbrev TS_root_steps_see_p0 : Type := Fl -> Bool -> (Bool -> Bool) -> Bool

def G_root_steps_see_p0 (N : Nat) (S_root_finite : TS_root_finite) (x : Fl) (b : Bool) (k0 : Bool -> Bool) : Bool :=
  (cond (b == false) (S_root_finite x (fun cr => (k0 (!cr)))) (k0 true))

def s_root_steps_see_p0 (N : Nat) : TS_root_steps_see_p0 := G_root_steps_see_p0 N (s_root_finite N)

abbrev TS_root_steps_dot_p0 : Type := List Fl -> List Fl -> Bool -> (Fl -> Bool -> Bool) -> Bool

def st_root_steps_dot_p0_0 (N : Nat) (S_root_steps_see_p0 : TS_root_steps_see_p0) (a_1 b_2 : List Fl) (t10 : Int) (e0 : Fl -> Bool -> Bool) : (Fl × Int × Bool) -> ((Fl × Int × Bool) -> Bool) -> Bool := fun v_ K => match v_ with
  | (t, t11, s) => (cond (decide (t11 < t10)) ((inR t11 (List.length a_1)) && ((inR t11 (List.length b_2)) && (S_root_steps_see_p0 (fmul (List.getD a_1 (Int.toNat t11) none) (List.getD b_2 (Int.toNat t11) none)) s (fun cr => (S_root_steps_see_p0 (fadd t (fmul (List.getD a_1 (Int.toNat t11) none) (List.getD b_2 (Int.toNat t11) none))) cr (fun cr_1 => ((fits .i64 (t11 + 1)) && (K ((fadd t (fmul (List.getD a_1 (Int.toNat t11) none) (List.getD b_2 (Int.toNat t11) none))), (t11 + 1), cr_1))))))))) (e0 t s))

def G_root_steps_dot_p0 (N : Nat) (S_root_steps_see_p0 : TS_root_steps_see_p0) (a b : List Fl) (b_1 : Bool) (k0 : Fl -> Bool -> Bool) : Bool :=
  (iterG N (st_root_steps_dot_p0_0 N S_root_steps_see_p0 a b (((List.length a) : Nat) : Int) (fun t_1 b0 => (k0 t_1 b0))) ((some 0), 0, b_1))

def s_root_steps_dot_p0 (N : Nat) : TS_root_steps_dot_p0 := G_root_steps_dot_p0 N (s_root_steps_see_p0 N)

abbrev TS_root_foresee_p0 : Type := List Fl -> Int -> Int -> List Fl -> List Fl -> Fl -> Bool -> (Fl -> Bool -> List Fl -> List Fl -> Bool) -> Bool

def st_root_foresee_p0_2 (N : Nat) (S_root_steps_dot_p0 : TS_root_steps_dot_p0) (S_root_steps_see_p0 : TS_root_steps_see_p0) (h_3 : List Fl) (r_3 : Fl) (n_2 j_1 t24_2 t25_2 t28_1 : Int) (k__2 : Bool) (s_11 : List Fl) (s_12 s_13 : Int) (s_14 : List Fl) (t8_2 o_2 : Fl) (b5_2 b6 : List Fl) (e0 : List Fl -> Bool) : (Int × List Fl) -> ((Int × List Fl) -> Bool) -> Bool := fun v_ K => match v_ with
  | (t29_1, col) => (cond (decide (t29_1 < t28_1)) ((fits .i64 (t29_1 * n_2)) && ((fits .i64 ((t29_1 * n_2) + j_1)) && ((inR ((t29_1 * n_2) + j_1) (List.length s_14)) && ((decide ((List.length (col ++ [(List.getD s_14 (Int.toNat ((t29_1 * n_2) + j_1)) none)])) * 8 <= 140737488355328)) && ((fits .i64 (t29_1 + 1)) && (K ((t29_1 + 1), (col ++ [(List.getD s_14 (Int.toNat ((t29_1 * n_2) + j_1)) none)])))))))) (e0 col))

def st_root_foresee_p0_0 (N : Nat) (S_root_steps_dot_p0 : TS_root_steps_dot_p0) (S_root_steps_see_p0 : TS_root_steps_see_p0) (h_1 : List Fl) (r_1 : Fl) (n t24 : Int) (s : List Fl) (s_4 s_5 : Int) (s_6 : List Fl) (t8 o : Fl) (b5 : List Fl) (e0 : Bool -> List Fl -> Bool) : (Int × Bool × List Fl) -> ((Int × Bool × List Fl) -> Bool) -> Bool := fun v_ K => match v_ with
  | (t25, k_, b4) => (cond (decide (t25 < t24)) (iterG N (st_root_foresee_p0_2 N S_root_steps_dot_p0 S_root_steps_see_p0 h_1 r_1 n t25 t24 t25 n k_ s s_4 s_5 s_6 t8 o b4 b5 (fun col_1 => (S_root_steps_dot_p0 col_1 h_1 k_ (fun xr cr => ((inR t25 (List.length b4)) && ((decide ((Int.toNat t25) < (List.length b4))) && ((fits .i64 (t25 + 1)) && (K ((t25 + 1), cr, (List.set b4 (Int.toNat t25) xr)))))))))) (0, [])) (e0 k_ b4))

def st_root_foresee_p0_4 (N : Nat) (S_root_steps_dot_p0 : TS_root_steps_dot_p0) (S_root_steps_see_p0 : TS_root_steps_see_p0) (t8_3 o_3 : Fl) (b3 : List Fl) (e0 : Bool -> List Fl -> Bool) : (Int × Bool × List Fl) -> ((Int × Bool × List Fl) -> Bool) -> Bool := fun v_ K => match v_ with
  | (j_2, k__4, b4_3) => (cond (decide (j_2 >= 0)) ((fits .i64 (j_2 + 1)) && ((inR (j_2 + 1) (List.length b4_3)) && ((decide ((Int.toNat (j_2 + 1)) < (List.length b4_3))) && ((inR j_2 (List.length b3)) && ((decide ((Int.toNat j_2) < (List.length b3))) && ((inR j_2 (List.length b3)) && ((decide ((Int.toNat j_2) < (List.length b3))) && (S_root_steps_see_p0 (fmul (List.getD b3 (Int.toNat j_2) none) (List.getD b3 (Int.toNat j_2) none)) k__4 (fun cr_2 => (S_root_steps_see_p0 (fadd (List.getD b4_3 (Int.toNat (j_2 + 1)) none) (fmul (List.getD b3 (Int.toNat j_2) none) (List.getD b3 (Int.toNat j_2) none))) cr_2 (fun cr_3 => ((inR j_2 (List.length b4_3)) && ((decide ((Int.toNat j_2) < (List.length b4_3))) && ((fits .i64 (j_2 - 1)) && (K ((j_2 - 1), cr_3, (List.set b4_3 (Int.toNat j_2) (fadd (List.getD b4_3 (Int.toNat (j_2 + 1)) none) (fmul (List.getD b3 (Int.toNat j_2) none) (List.getD b3 (Int.toNat j_2) none)))))))))))))))))))) (e0 k__4 b4_3))

def G_root_foresee_p0 (N : Nat) (S_root_steps_dot_p0 : TS_root_steps_dot_p0) (S_root_steps_see_p0 : TS_root_steps_see_p0) (s_0 : List Fl) (s_1 s_2 : Int) (s_3 h : List Fl) (r : Fl) (b : Bool) (k0 : Fl -> Bool -> List Fl -> List Fl -> Bool) : Bool :=
  ((mkOk 8 (((List.length s_0) : Nat) : Int) (((List.length s_0) : Nat) : Int)) && ((fits .i64 ((((List.length s_0) : Nat) : Int) + 1)) && ((mkOk 8 ((((List.length s_0) : Nat) : Int) + 1) ((((List.length s_0) : Nat) : Int) + 1)) && (iterG N (st_root_foresee_p0_0 N S_root_steps_dot_p0 S_root_steps_see_p0 h r (((List.length s_0) : Nat) : Int) (((List.length s_0) : Nat) : Int) s_0 s_1 s_2 s_3 (some 0) (some 0) (List.replicate (Int.toNat ((((List.length s_0) : Nat) : Int) + 1)) (some 0)) (fun k__3 b4_2 => (S_root_steps_dot_p0 h s_0 k__3 (fun xr_1 cr_1 => ((inR (((List.length s_0) : Nat) : Int) (List.length (List.replicate (Int.toNat ((((List.length s_0) : Nat) : Int) + 1)) (some 0)))) && ((decide ((Int.toNat (((List.length s_0) : Nat) : Int)) < (List.length (List.replicate (Int.toNat ((((List.length s_0) : Nat) : Int) + 1)) (some 0))))) && ((fits .i64 ((((List.length s_0) : Nat) : Int) - 1)) && (iterG N (st_root_foresee_p0_4 N S_root_steps_dot_p0 S_root_steps_see_p0 (some 0) xr_1 b4_2 (fun b0 b4_4 => (k0 xr_1 b0 b4_2 b4_4))) (((((List.length s_0) : Nat) : Int) - 1), cr_1, (List.set (List.replicate (Int.toNat ((((List.length s_0) : Nat) : Int) + 1)) (some 0)) (Int.toNat (((List.length s_0) : Nat) : Int)) r)))))))))) (0, b, (List.replicate (Int.toNat (((List.length s_0) : Nat) : Int)) (some 0)))))))

def s_root_foresee_p0 (N : Nat) : TS_root_foresee_p0 := G_root_foresee_p0 N (s_root_steps_dot_p0 N) (s_root_steps_see_p0 N)

abbrev TSq9 : Type := Int -> Int -> (Fl -> Bool) -> Bool

def Gq9 (N : Nat) (i j : Int) (k0 : Fl -> Bool) : Bool :=
  (k0 (some 0))

def sq9 (N : Nat) : TSq9 := Gq9 N

abbrev TSq25 : Type := Int -> Int -> (List Fl -> Bool) -> Bool

def stq75 (N : Nat) (Sq9 : TSq9) (cols_2 i t17_1 t18_1 t21 t6_2 t6_3 m_2 m_3 : Int) (e0 : List Fl -> Bool) : (Int × List Fl) -> ((Int × List Fl) -> Bool) -> Bool := fun v_ K => match v_ with
  | (t22, b2_1) => (cond (decide (t22 < t21)) (Sq9 i t22 (fun xr => ((decide ((List.length (b2_1 ++ [xr])) * 8 <= 140737488355328)) && ((fits .i64 (t22 + 1)) && (K ((t22 + 1), (b2_1 ++ [xr]))))))) (e0 b2_1))

def stq74 (N : Nat) (Sq9 : TSq9) (cols_1 t17 t6 t6_1 m m_1 : Int) (e0 : List Fl -> Bool) : (Int × List Fl) -> ((Int × List Fl) -> Bool) -> Bool := fun v_ K => match v_ with
  | (t18, b2) => (cond (decide (t18 < t17)) (iterG N (stq75 N Sq9 cols_1 t18 t17 t18 cols_1 t6 t6_1 m m_1 (fun b2_2 => ((fits .i64 (t18 + 1)) && (K ((t18 + 1), b2_2))))) (0, b2)) (e0 b2))

def Gq25 (N : Nat) (Sq9 : TSq9) (rows cols : Int) (k0 : List Fl -> Bool) : Bool :=
  ((fits .i64 (rows * cols)) && ((mkOk 8 0 (rows * cols)) && (iterG N (stq74 N Sq9 cols rows 0 0 rows cols (fun b2_3 => (k0 b2_3))) (0, []))))

def sq25 (N : Nat) : TSq25 := Gq25 N (sq9 N)

abbrev TSq5 : Type := Int -> Int -> (Int -> Int -> Int -> Bool) -> (Int -> List Fl -> Bool) -> Bool

def Gq5 (N : Nat) (Sq24 : TSq24) (Sq25 : TSq25) (rows cols : Int) (k0 : Int -> Int -> Int -> Bool) (k1 : Int -> List Fl -> Bool) : Bool :=
  (Sq24 rows (fun cr => (cond ((!cr) == false) (Sq24 cols (fun cr_1 => (cond (!cr_1) (k0 0 0 1) (Sq25 rows cols (fun xsr => (k1 0 xsr)))))) (k0 0 0 1))))

def sq5 (N : Nat) : TSq5 := Gq5 N (sq24 N) (sq25 N)

abbrev TSq70 : Type := Fl -> (Fl -> Bool) -> Bool

def sq70 (N : Nat) : TSq70 := fun x k => k (fsqrt x)

abbrev TSq20 : Type := Fl -> (Fl -> Bool) -> Bool

def Gq20 (N : Nat) (Sq70 : TSq70) (x : Fl) (k0 : Fl -> Bool) : Bool :=
  (Sq70 x (fun xr => (k0 xr)))

def sq20 (N : Nat) : TSq20 := Gq20 N (sq70 N)

abbrev TS_root_carlson_p0 : Type := List Fl -> Int -> Int -> List Fl -> Fl -> List Fl -> List Fl -> Bool -> (Int -> Int -> Bool -> List Fl -> Bool) -> (Int -> Int -> Bool -> List Fl -> List Fl -> Bool) -> Bool

def st_root_carlson_p0_2 (N : Nat) (Sq5 : TSq5) (Sq20 : TSq20) (S_root_steps_see_p0 : TS_root_steps_see_p0) (n_1 j_1 : Int) (c t : Fl) (i : Int) (k__1 : Bool) (s_7 : List Fl) (s_8 s_9 : Int) (s_10 : List Fl) (o_5 : Fl) (o_6 o_7 : List Fl) (t6_2 t6_3 l_2 l_3 : Int) (w_1 : List Fl) (e0 : Bool) : (Unit) -> ((Unit) -> Bool) -> Bool := fun v_ K => match v_ with
  | _ => (cond (decide (i < n_1)) ((fits .i64 (i * n_1)) && ((fits .i64 ((i * n_1) + j_1)) && ((inR ((i * n_1) + j_1) (List.length s_10)) && ((fits .i64 (i * n_1)) && ((fits .i64 ((i * n_1) + j_1)) && (S_root_steps_see_p0 (fmul c (List.getD s_10 (Int.toNat ((i * n_1) + j_1)) none)) k__1 (fun cr_3 => ((inR i (List.length w_1)) && ((decide ((Int.toNat i) < (List.length w_1))) && (S_root_steps_see_p0 (fmul t (List.getD w_1 (Int.toNat i) none)) cr_3 (fun cr_4 => (S_root_steps_see_p0 (fsub (fmul c (List.getD s_10 (Int.toNat ((i * n_1) + j_1)) none)) (fmul t (List.getD w_1 (Int.toNat i) none))) cr_4 (fun cr_5 => false))))))))))))) e0)

def st_root_carlson_p0_0 (N : Nat) (Sq5 : TSq5) (Sq20 : TSq20) (S_root_steps_see_p0 : TS_root_steps_see_p0) (n : Int) (s : List Fl) (s_4 s_5 : Int) (s_6 : List Fl) (o : Fl) (o_3 o_4 : List Fl) (t6 t6_1 l l_1 : Int) (w : List Fl) (e0 : Bool -> Bool) : (Int × Bool) -> ((Int × Bool) -> Bool) -> Bool := fun v_ K => match v_ with
  | (j, k_) => (cond (decide (j >= 0)) ((inR j (List.length o_4)) && (Sq20 (List.getD o_4 (Int.toNat j) none) (fun xr => ((fits .i64 (j + 1)) && ((inR (j + 1) (List.length o_4)) && (Sq20 (List.getD o_4 (Int.toNat (j + 1)) none) (fun xr_1 => (S_root_steps_see_p0 (fdiv xr_1 xr) k_ (fun cr => ((inR j (List.length o_3)) && (S_root_steps_see_p0 (fmul xr xr_1) cr (fun cr_1 => (S_root_steps_see_p0 (fdiv (List.getD o_3 (Int.toNat j) none) (fmul xr xr_1)) cr_1 (fun cr_2 => (iterG N (st_root_carlson_p0_2 N Sq5 Sq20 S_root_steps_see_p0 n j (fdiv xr_1 xr) (fdiv (List.getD o_3 (Int.toNat j) none) (fmul xr xr_1)) j cr_2 s s_4 s_5 s_6 o o_3 o_4 t6 t6_1 l l_1 w ((fits .i64 (j - 1)) && (K ((j - 1), cr_2)))) ()))))))))))))))) (e0 k_))

def st_root_carlson_p0_2_1 (N : Nat) (Sq5 : TSq5) (Sq20 : TSq20) (S_root_steps_see_p0 : TS_root_steps_see_p0) (n_3 j_3 : Int) (c_1 t_1 : Fl) (s_15 : List Fl) (s_16 s_17 : Int) (s_18 : List Fl) (o_11 : Fl) (o_12 o_13 : List Fl) (t6_6 t6_7 l_6 l_7 : Int) (e0 : Bool -> List Fl -> List Fl -> Bool) : (Int × Bool × List Fl × List Fl) -> ((Int × Bool × List Fl × List Fl) -> Bool) -> Bool := fun v_ K => match v_ with
  | (i_1, k__3, w_3, b6_1) => (cond (decide (i_1 < n_3)) ((fits .i64 (i_1 * n_3)) && ((fits .i64 ((i_1 * n_3) + j_3)) && ((inR ((i_1 * n_3) + j_3) (List.length s_18)) && ((fits .i64 (i_1 * n_3)) && ((fits .i64 ((i_1 * n_3) + j_3)) && (S_root_steps_see_p0 (fmul c_1 (List.getD s_18 (Int.toNat ((i_1 * n_3) + j_3)) none)) k__3 (fun c9 => ((inR i_1 (List.length w_3)) && ((decide ((Int.toNat i_1) < (List.length w_3))) && (S_root_steps_see_p0 (fmul t_1 (List.getD w_3 (Int.toNat i_1) none)) c9 (fun c10 => (S_root_steps_see_p0 (fsub (fmul c_1 (List.getD s_18 (Int.toNat ((i_1 * n_3) + j_3)) none)) (fmul t_1 (List.getD w_3 (Int.toNat i_1) none))) c10 (fun c11 => ((inR ((i_1 * n_3) + j_3) (List.length b6_1)) && ((decide ((Int.toNat ((i_1 * n_3) + j_3)) < (List.length b6_1))) && ((inR i_1 (List.length w_3)) && ((decide ((Int.toNat i_1) < (List.length w_3))) && ((inR j_3 (List.length o_12)) && (S_root_steps_see_p0 (fmul (List.getD o_12 (Int.toNat j_3) none) (List.getD s_18 (Int.toNat ((i_1 * n_3) + j_3)) none)) c11 (fun c12 => (S_root_steps_see_p0 (fadd (List.getD w_3 (Int.toNat i_1) none) (fmul (List.getD o_12 (Int.toNat j_3) none) (List.getD s_18 (Int.toNat ((i_1 * n_3) + j_3)) none))) c12 (fun c13 => ((inR i_1 (List.length w_3)) && ((decide ((Int.toNat i_1) < (List.length w_3))) && ((fits .i64 (i_1 + 1)) && (K ((i_1 + 1), c13, (List.set w_3 (Int.toNat i_1) (fadd (List.getD w_3 (Int.toNat i_1) none) (fmul (List.getD o_12 (Int.toNat j_3) none) (List.getD s_18 (Int.toNat ((i_1 * n_3) + j_3)) none)))), (List.set b6_1 (Int.toNat ((i_1 * n_3) + j_3)) (fsub (fmul c_1 (List.getD s_18 (Int.toNat ((i_1 * n_3) + j_3)) none)) (fmul t_1 (List.getD w_3 (Int.toNat i_1) none))))))))))))))))))))))))))))))) (e0 k__3 w_3 b6_1))

def st_root_carlson_p0_0_1 (N : Nat) (Sq5 : TSq5) (Sq20 : TSq20) (S_root_steps_see_p0 : TS_root_steps_see_p0) (n_2 : Int) (s_11 : List Fl) (s_12 s_13 : Int) (s_14 : List Fl) (o_8 : Fl) (o_9 o_10 : List Fl) (t6_4 t6_5 l_4 l_5 : Int) (e0 : Bool -> List Fl -> List Fl -> Bool) : (Int × Bool × List Fl × List Fl) -> ((Int × Bool × List Fl × List Fl) -> Bool) -> Bool := fun v_ K => match v_ with
  | (j_2, k__2, w_2, b6) => (cond (decide (j_2 >= 0)) ((inR j_2 (List.length o_10)) && (Sq20 (List.getD o_10 (Int.toNat j_2) none) (fun xr_2 => ((fits .i64 (j_2 + 1)) && ((inR (j_2 + 1) (List.length o_10)) && (Sq20 (List.getD o_10 (Int.toNat (j_2 + 1)) none) (fun xr_3 => (S_root_steps_see_p0 (fdiv xr_3 xr_2) k__2 (fun cr_6 => ((inR j_2 (List.length o_9)) && (S_root_steps_see_p0 (fmul xr_2 xr_3) cr_6 (fun c7 => (S_root_steps_see_p0 (fdiv (List.getD o_9 (Int.toNat j_2) none) (fmul xr_2 xr_3)) c7 (fun c8 => (iterG N (st_root_carlson_p0_2_1 N Sq5 Sq20 S_root_steps_see_p0 n_2 j_2 (fdiv xr_3 xr_2) (fdiv (List.getD o_9 (Int.toNat j_2) none) (fmul xr_2 xr_3)) s_11 s_12 s_13 s_14 o_8 o_9 o_10 t6_4 t6_5 l_4 l_5 (fun k__4 w_4 b6_2 => ((fits .i64 (j_2 - 1)) && (K ((j_2 - 1), k__4, w_4, b6_2))))) (j_2, c8, w_2, b6)))))))))))))))) (e0 k__2 w_2 b6))

def G_root_carlson_p0 (N : Nat) (Sq5 : TSq5) (Sq20 : TSq20) (S_root_steps_see_p0 : TS_root_steps_see_p0) (s_0 : List Fl) (s_1 s_2 : Int) (s_3 : List Fl) (o_0 : Fl) (o_1 o_2 : List Fl) (b : Bool) (k0 : Int -> Int -> Bool -> List Fl -> Bool) (k1 : Int -> Int -> Bool -> List Fl -> List Fl -> Bool) : Bool :=
  (Sq5 (((List.length s_0) : Nat) : Int) (((List.length s_0) : Nat) : Int) (fun nr nr_1 nr_2 => ((mkOk 8 (((List.length s_0) : Nat) : Int) (((List.length s_0) : Nat) : Int)) && ((fits .i64 ((((List.length s_0) : Nat) : Int) - 1)) && (iterG N (st_root_carlson_p0_0 N Sq5 Sq20 S_root_steps_see_p0 (((List.length s_0) : Nat) : Int) s_0 s_1 s_2 s_3 o_0 o_1 o_2 0 0 nr nr_1 (List.replicate (Int.toNat (((List.length s_0) : Nat) : Int)) (some 0)) (fun b0 => (k0 nr nr_1 b0 (List.replicate (Int.toNat (((List.length s_0) : Nat) : Int)) (some 0))))) (((((List.length s_0) : Nat) : Int) - 1), b))))) (fun nr_3 xsr => ((mkOk 8 (((List.length s_0) : Nat) : Int) (((List.length s_0) : Nat) : Int)) && ((fits .i64 ((((List.length s_0) : Nat) : Int) - 1)) && (iterG N (st_root_carlson_p0_0_1 N Sq5 Sq20 S_root_steps_see_p0 (((List.length s_0) : Nat) : Int) s_0 s_1 s_2 s_3 o_0 o_1 o_2 0 0 (((List.length s_0) : Nat) : Int) (((List.length s_0) : Nat) : Int) (fun b0_1 w_5 b4 => (k1 (((List.length s_0) : Nat) : Int) (((List.length s_0) : Nat) : Int) b0_1 b4 w_5))) (((((List.length s_0) : Nat) : Int) - 1), b, (List.replicate (Int.toNat (((List.length s_0) : Nat) : Int)) (some 0)), xsr))))))

def s_root_carlson_p0 (N : Nat) : TS_root_carlson_p0 := G_root_carlson_p0 N (sq5 N) (sq20 N) (s_root_steps_see_p0 N)

abbrev TS_root_Update : Type := List Fl -> Int -> Int -> List Fl -> List Fl -> Fl -> Fl -> (List Fl -> Int -> Int -> List Fl -> Fl -> Fl -> Fl -> List Fl -> Int -> Bool) -> Bool

def st_root_Update_0 (N : Nat) (S_root_Check : TS_root_Check) (S_root_checkRow : TS_root_checkRow) (S_root_finite : TS_root_finite) (S_root_foresee_p0 : TS_root_foresee_p0) (S_root_steps_see_p0 : TS_root_steps_see_p0) (S_root_carlson_p0 : TS_root_carlson_p0) (S_root_above : TS_root_above) (y_2 : Fl) (t93_2 : Int) (s_11 : List Fl) (s_12 s_13 : Int) (s_14 : List Fl) (t8_4 t8_5 : Int) (t9_6 t9_7 t9_8 o_2 : Fl) (l_4 l_5 : Int) (w_2 : List Fl) (step_6 step_7 step_8 : Fl) (next_4 next_5 : Int) (b9_2 b10_2 : List Fl) (e0 : Bool -> List Fl -> List Fl -> Bool) : (Int × Bool × List Fl × List Fl) -> ((Int × Bool × List Fl × List Fl) -> Bool) -> Bool := fun v_ K => match v_ with
  | (t94_2, k__2, b11_1, b12) => (cond (decide (t94_2 < t93_2)) ((inR t94_2 (List.length w_2)) && ((decide ((Int.toNat t94_2) < (List.length w_2))) && ((inR 0 (List.length b10_2)) && ((decide (0 < (List.length b10_2))) && (S_root_steps_see_p0 (fdiv (List.getD w_2 (Int.toNat t94_2) none) (List.getD b10_2 0 none)) k__2 (fun c15 => ((decide ((List.length (b11_1 ++ [(fdiv (List.getD w_2 (Int.toNat t94_2) none) (List.getD b10_2 0 none))])) * 8 <= 140737488355328)) && ((inR t94_2 (List.length s_11)) && (S_root_steps_see_p0 (fmul (fdiv (List.getD w_2 (Int.toNat t94_2) none) (List.getD b10_2 0 none)) y_2) c15 (fun c16 => (S_root_steps_see_p0 (fadd (List.getD s_11 (Int.toNat t94_2) none) (fmul (fdiv (List.getD w_2 (Int.toNat t94_2) none) (List.getD b10_2 0 none)) y_2)) c16 (fun c17 => ((decide ((List.length (b12 ++ [(fadd (List.getD s_11 (Int.toNat t94_2) none) (fmul (fdiv (List.getD w_2 (Int.toNat t94_2) none) (List.getD b10_2 0 none)) y_2))])) * 8 <= 140737488355328)) && ((fits .i64 (t94_2 + 1)) && (K ((t94_2 + 1), c17, (b11_1 ++ [(fdiv (List.getD w_2 (Int.toNat t94_2) none) (List.getD b10_2 0 none))]), (b12 ++ [(fadd (List.getD s_11 (Int.toNat t94_2) none) (fmul (fdiv (List.getD w_2 (Int.toNat t94_2) none) (List.getD b10_2 0 none)) y_2))]))))))))))))))))) (e0 k__2 b11_1 b12))

def st_root_Update_0_1 (N : Nat) (S_root_Check : TS_root_Check) (S_root_checkRow : TS_root_checkRow) (S_root_finite : TS_root_finite) (S_root_foresee_p0 : TS_root_foresee_p0) (S_root_steps_see_p0 : TS_root_steps_see_p0) (S_root_carlson_p0 : TS_root_carlson_p0) (S_root_above : TS_root_above) (y_3 : Fl) (t93_3 : Int) (s_15 : List Fl) (s_16 s_17 : Int) (s_18 : List Fl) (t8_6 t8_7 : Int) (t9_9 t9_10 t9_11 o_3 : Fl) (l_6 l_7 : Int) (w_3 : List Fl) (step_9 step_10 step_11 : Fl) (next_6 next_7 : Int) (b9_3 b10_3 b11_2 : List Fl) (e0 : Bool -> List Fl -> List Fl -> Bool) : (Int × Bool × List Fl × List Fl) -> ((Int × Bool × List Fl × List Fl) -> Bool) -> Bool := fun v_ K => match v_ with
  | (t94_3, k__4, b12_1, b13) => (cond (decide (t94_3 < t93_3)) ((inR t94_3 (List.length w_3)) && ((decide ((Int.toNat t94_3) < (List.length w_3))) && ((inR 0 (List.length b10_3)) && ((decide (0 < (List.length b10_3))) && (S_root_steps_see_p0 (fdiv (List.getD w_3 (Int.toNat t94_3) none) (List.getD b10_3 0 none)) k__4 (fun c18 => ((decide ((List.length (b12_1 ++ [(fdiv (List.getD w_3 (Int.toNat t94_3) none) (List.getD b10_3 0 none))])) * 8 <= 140737488355328)) && ((inR t94_3 (List.length s_15)) && (S_root_steps_see_p0 (fmul (fdiv (List.getD w_3 (Int.toNat t94_3) none) (List.getD b10_3 0 none)) y_3) c18 (fun c19 => (S_root_steps_see_p0 (fadd (List.getD s_15 (Int.toNat t94_3) none) (fmul (fdiv (List.getD w_3 (Int.toNat t94_3) none) (List.getD b10_3 0 none)) y_3)) c19 (fun c20 => ((decide ((List.length (b13 ++ [(fadd (List.getD s_15 (Int.toNat t94_3) none) (fmul (fdiv (List.getD w_3 (Int.toNat t94_3) none) (List.getD b10_3 0 none)) y_3))])) * 8 <= 140737488355328)) && ((fits .i64 (t94_3 + 1)) && (K ((t94_3 + 1), c20, (b12_1 ++ [(fdiv (List.getD w_3 (Int.toNat t94_3) none) (List.getD b10_3 0 none))]), (b13 ++ [(fadd (List.getD s_15 (Int.toNat t94_3) none) (fmul (fdiv (List.getD w_3 (Int.toNat t94_3) none) (List.getD b10_3 0 none)) y_3))]))))))))))))))))) (e0 k__4 b12_1 b13))

def J_root_Update_1 (N : Nat) (S_root_Check : TS_root_Check) (S_root_checkRow : TS_root_checkRow) (S_root_finite : TS_root_finite) (S_root_foresee_p0 : TS_root_foresee_p0) (S_root_steps_see_p0 : TS_root_steps_see_p0) (S_root_carlson_p0 : TS_root_carlson_p0) (S_root_above : TS_root_above) (s_0 : List Fl) (s_1 s_2 : Int) (s_3 h : List Fl) (r z : Fl) (k__7 : Bool) (l_10 l_11 : Int) (step_15 step_16 step_17 : Fl) (next_10 next_11 : Int) (b6_2 b7_3 b8_1 : List Fl) (k0 : List Fl -> Int -> Int -> List Fl -> Fl -> Fl -> Fl -> List Fl -> Int -> Bool) : Bool :=
  (cond k__7 (k0 [] 0 0 [] (some 0) (some 0) (some 0) [] 5) (S_root_above l_10 l_11 b6_2 (fun c22 => (cond (!c22) (k0 [] 0 0 [] (some 0) (some 0) (some 0) [] 93) (k0 b8_1 next_10 next_11 b6_2 step_15 step_16 step_17 b7_3 0)))))

def J_root_Update_0 (N : Nat) (S_root_Check : TS_root_Check) (S_root_checkRow : TS_root_checkRow) (S_root_finite : TS_root_finite) (S_root_foresee_p0 : TS_root_foresee_p0) (S_root_steps_see_p0 : TS_root_steps_see_p0) (S_root_carlson_p0 : TS_root_carlson_p0) (S_root_above : TS_root_above) (s_0 : List Fl) (s_1 s_2 : Int) (s_3 h : List Fl) (r z : Fl) (k__6 : Bool) (l_8 l_9 : Int) (step_12 step_13 step_14 : Fl) (next_8 next_9 : Int) (b6_1 b7_2 : List Fl) (k0 : List Fl -> Int -> Int -> List Fl -> Fl -> Fl -> Fl -> List Fl -> Int -> Bool) : Bool :=
  (cond k__6 (k0 [] 0 0 [] (some 0) (some 0) (some 0) [] 5) (S_root_above l_8 l_9 [] (fun c21 => (cond (!c21) (k0 [] 0 0 [] (some 0) (some 0) (some 0) [] 93) (k0 b7_2 next_8 next_9 [] step_12 step_13 step_14 b6_1 0)))))

def G_root_Update (N : Nat) (S_root_Check : TS_root_Check) (S_root_checkRow : TS_root_checkRow) (S_root_finite : TS_root_finite) (S_root_foresee_p0 : TS_root_foresee_p0) (S_root_steps_see_p0 : TS_root_steps_see_p0) (S_root_carlson_p0 : TS_root_carlson_p0) (S_root_above : TS_root_above) (s_0 : List Fl) (s_1 s_2 : Int) (s_3 h : List Fl) (r z : Fl) (k0 : List Fl -> Int -> Int -> List Fl -> Fl -> Fl -> Fl -> List Fl -> Int -> Bool) : Bool :=
  (S_root_Check s_0 s_1 s_2 s_3 (fun nr => (cond (nr != 0) (k0 [] 0 0 [] (some 0) (some 0) (some 0) [] nr) (S_root_checkRow (((List.length s_0) : Nat) : Int) h r (fun nr_1 => (cond (nr_1 != 0) (k0 [] 0 0 [] (some 0) (some 0) (some 0) [] nr_1) (S_root_finite z (fun cr => (cond (!cr) (k0 [] 0 0 [] (some 0) (some 0) (some 0) [] 4) (S_root_foresee_p0 s_0 s_1 s_2 s_3 h r false (fun xr cr_1 xsr xsr_1 => (cond cr_1 (k0 [] 0 0 [] (some 0) (some 0) (some 0) [] 5) (S_root_steps_see_p0 (fsub z xr) cr_1 (fun cr_2 => (S_root_carlson_p0 s_0 s_1 s_2 s_3 xr xsr xsr_1 cr_2 (fun nr_2 nr_3 cr_3 xsr_2 => ((inR 0 (List.length xsr_1)) && ((decide (0 < (List.length xsr_1))) && (S_root_steps_see_p0 (fmul (fsub z xr) (fsub z xr)) cr_3 (fun cr_5 => ((inR 0 (List.length xsr_1)) && ((decide (0 < (List.length xsr_1))) && (S_root_steps_see_p0 (fdiv (fmul (fsub z xr) (fsub z xr)) (List.getD xsr_1 0 none)) cr_5 (fun cr_6 => (iterG N (st_root_Update_0 N S_root_Check S_root_checkRow S_root_finite S_root_foresee_p0 S_root_steps_see_p0 S_root_carlson_p0 S_root_above (fsub z xr) (((List.length s_0) : Nat) : Int) s_0 s_1 s_2 s_3 0 0 (some 0) (some 0) (some 0) xr nr_2 nr_3 xsr_2 (fsub z xr) (List.getD xsr_1 0 none) (fdiv (fmul (fsub z xr) (fsub z xr)) (List.getD xsr_1 0 none)) nr_2 nr_3 xsr xsr_1 (fun k__3 b6 b7 => (J_root_Update_0 N S_root_Check S_root_checkRow S_root_finite S_root_foresee_p0 S_root_steps_see_p0 S_root_carlson_p0 S_root_above s_0 s_1 s_2 s_3 h r z k__3 nr_2 nr_3 (fsub z xr) (List.getD xsr_1 0 none) (fdiv (fmul (fsub z xr) (fsub z xr)) (List.getD xsr_1 0 none)) nr_2 nr_3 b6 b7 k0))) (0, cr_6, [], []))))))))))) (fun nr_4 n5 cr_4 xsr_3 y4 => ((inR 0 (List.length xsr_1)) && ((decide (0 < (List.length xsr_1))) && (S_root_steps_see_p0 (fmul (fsub z xr) (fsub z xr)) cr_4 (fun c7 => ((inR 0 (List.length xsr_1)) && ((decide (0 < (List.length xsr_1))) && (S_root_steps_see_p0 (fdiv (fmul (fsub z xr) (fsub z xr)) (List.getD xsr_1 0 none)) c7 (fun c8 => (iterG N (st_root_Update_0_1 N S_root_Check S_root_checkRow S_root_finite S_root_foresee_p0 S_root_steps_see_p0 S_root_carlson_p0 S_root_above (fsub z xr) (((List.length s_0) : Nat) : Int) s_0 s_1 s_2 s_3 0 0 (some 0) (some 0) (some 0) xr nr_4 n5 y4 (fsub z xr) (List.getD xsr_1 0 none) (fdiv (fmul (fsub z xr) (fsub z xr)) (List.getD xsr_1 0 none)) nr_4 n5 xsr xsr_1 xsr_3 (fun k__5 b7_1 b8 => (J_root_Update_1 N S_root_Check S_root_checkRow S_root_finite S_root_foresee_p0 S_root_steps_see_p0 S_root_carlson_p0 S_root_above s_0 s_1 s_2 s_3 h r z k__5 nr_4 n5 (fsub z xr) (List.getD xsr_1 0 none) (fdiv (fmul (fsub z xr) (fsub z xr)) (List.getD xsr_1 0 none)) nr_4 n5 xsr_3 b7_1 b8 k0))) (0, c8, [], []))))))))))))))))))))))))))

def s_root_Update (N : Nat) : TS_root_Update := G_root_Update N (s_root_Check N) (s_root_checkRow N) (s_root_finite N) (s_root_foresee_p0 N) (s_root_steps_see_p0 N) (s_root_carlson_p0 N) (s_root_above N)

abbrev TS_root_Rows : Type := List Fl -> Int -> Int -> List Fl -> Int -> Int -> List Fl -> List Fl -> List Fl -> (Int -> Int -> Int -> Int -> Bool) -> (List Fl -> Int -> Int -> List Fl -> Int -> Int -> List RY1 -> Bool) -> Bool

def st_root_Rows_0 (N : Nat) (S_root_Check : TS_root_Check) (Sq0 : TSq0) (S_root_Update : TS_root_Update) (r_2 z_2 : List Fl) (t69_1 h_5 h_6 : Int) (h_7 : List Fl) (t8_2 t8_3 : Int) (e0 : Int -> Int -> Int -> Int -> Bool) (e1 : List Fl -> Int -> Int -> List Fl -> List RY1 -> Bool) : (Int × List Fl × Int × Int × List Fl × List RY1) -> ((Int × List Fl × Int × Int × List Fl × List RY1) -> Bool) -> Bool := fun v_ K => match v_ with
  | (t70_1, next_4, next_5, next_6, next_7, l) => (cond (decide (t70_1 < t69_1)) ((fits .i64 (t70_1 * h_6)) && ((fits .i64 (t70_1 + 1)) && ((fits .i64 ((t70_1 + 1) * h_6)) && ((decide (0 <= (t70_1 * h_6) /\ (t70_1 * h_6) <= ((t70_1 + 1) * h_6) /\ ((t70_1 + 1) * h_6) <= (((List.length h_7) : Nat) : Int))) && ((inR t70_1 (List.length r_2)) && ((inR t70_1 (List.length z_2)) && (S_root_Update next_4 next_5 next_6 next_7 (List.drop (Int.toNat (t70_1 * h_6)) (List.take (Int.toNat ((t70_1 + 1) * h_6)) h_7)) (List.getD r_2 (Int.toNat t70_1) none) (List.getD z_2 (Int.toNat t70_1) none) (fun xsr_3 n5 n6 y4 xr_3 xr_4 xr_5 y5 n7 => (cond (n7 != 0) (e0 t70_1 n7 0 0) ((decide ((List.length (l ++ [(xr_3, (xr_4, (xr_5, y5)))])) * 48 <= 140737488355328)) && ((fits .i64 (t70_1 + 1)) && (K ((t70_1 + 1), xsr_3, n5, n6, y4, (l ++ [(xr_3, (xr_4, (xr_5, y5)))])))))))))))))) (e1 next_4 next_5 next_6 next_7 l))

def G_root_Rows (N : Nat) (S_root_Check : TS_root_Check) (Sq0 : TSq0) (S_root_Update : TS_root_Update) (s_0 : List Fl) (s_1 s_2 : Int) (s_3 : List Fl) (h_0 h_1 : Int) (h_2 r z : List Fl) (k0 : Int -> Int -> Int -> Int -> Bool) (k1 : List Fl -> Int -> Int -> List Fl -> Int -> Int -> List RY1 -> Bool) : Bool :=
  (S_root_Check s_0 s_1 s_2 s_3 (fun nr => (cond (nr != 0) (k0 0 0 0 nr) (Sq0 h_0 h_1 h_2 (fun nr_1 => (cond (nr_1 != 0) (k0 0 0 0 nr_1) (cond ((h_1 != (((List.length s_0) : Nat) : Int)) == false) (cond (((((List.length r) : Nat) : Int) != h_0) == false) (cond ((((List.length z) : Nat) : Int) != h_0) (k0 0 0 0 3) ((decide ((List.length ([] ++ s_0)) * 8 <= 140737488355328)) && ((decide ((List.length ([] ++ s_3)) * 8 <= 140737488355328)) && (iterG N (st_root_Rows_0 N S_root_Check Sq0 S_root_Update r z h_0 h_0 h_1 h_2 0 0 (fun t10 t11 t8_4 t8_5 => (k0 t8_4 t8_5 t10 t11)) (fun (next_8 : List Fl) (next_9 next_10 : Int) (next_11 : List Fl) (l_1 : List RY1) => (k1 next_8 next_9 next_10 next_11 0 0 l_1))) (0, ([] ++ s_0), s_1, s_2, ([] ++ s_3), []))))) (k0 0 0 0 3)) (k0 0 0 0 3))))))))

def s_root_Rows (N : Nat) : TS_root_Rows := G_root_Rows N (s_root_Check N) (sq0 N) (s_root_Update N)

abbrev TSq69 : Type := Fl -> (Int -> Bool) -> Bool

def sq69 (N : Nat) : TSq69 := fun x k => match x with | some b => k b | none => false

abbrev TSq42 : Type := Fl -> (Int -> Bool) -> Bool

def Gq42 (N : Nat) (Sq69 : TSq69) (x : Fl) (k0 : Int -> Bool) : Bool :=
  (cond (!feq x x) (k0 9221120237041090561) (Sq69 x (fun nr => (k0 nr))))

def sq42 (N : Nat) : TSq42 := Gq42 N (sq69 N)

abbrev TSq51 : Type := Fl -> (Bool -> Int -> Int -> Bool) -> Bool

def Gq51 (N : Nat) (Sq42 : TSq42) (x : Fl) (k0 : Bool -> Int -> Int -> Bool) : Bool :=
  (Sq42 x (fun nr => ((fits .i64 (Int.tmod (Int.fdiv nr (2 ^ 52)) 2048)) && (k0 ((Int.fdiv nr (2 ^ 63)) == 1) (Int.tmod (Int.fdiv nr (2 ^ 52)) 2048) (Int.tmod nr 4503599627370496)))))

def sq51 (N : Nat) : TSq51 := Gq51 N (sq42 N)

abbrev TSq33 : Type := Int -> Int -> Int -> (Int -> Bool) -> Bool

def Gq33 (N : Nat) (exp frac most : Int) (k0 : Int -> Bool) : Bool :=
  (cond ((exp == most) == true) (cond (frac != 0) (k0 1) (cond (exp == most) (k0 2) (cond ((exp == 0) == true) (cond (frac == 0) (k0 3) (cond (exp == 0) (k0 4) (k0 5))) (cond (exp == 0) (k0 4) (k0 5))))) (cond (exp == most) (k0 2) (cond ((exp == 0) == true) (cond (frac == 0) (k0 3) (cond (exp == 0) (k0 4) (k0 5))) (cond (exp == 0) (k0 4) (k0 5)))))

def sq33 (N : Nat) : TSq33 := Gq33 N

abbrev TSq50 : Type := Fl -> (Int -> Bool) -> Bool

def Gq50 (N : Nat) (Sq51 : TSq51) (Sq33 : TSq33) (x : Fl) (k0 : Int -> Bool) : Bool :=
  (Sq51 x (fun cr nr nr_1 => (Sq33 nr nr_1 2047 (fun nr_2 => (k0 nr_2)))))

def sq50 (N : Nat) : TSq50 := Gq50 N (sq51 N) (sq33 N)

abbrev TSq1 : Type := Fl -> (Bool -> Bool) -> Bool

def Gq1 (N : Nat) (Sq50 : TSq50) (x : Fl) (k0 : Bool -> Bool) : Bool :=
  (Sq50 x (fun nr => (k0 (decide (nr > 2)))))

def sq1 (N : Nat) : TSq1 := Gq1 N (sq50 N)

abbrev TSq4 : Type := List Fl -> (Bool -> Bool) -> Bool

def stq76 (N : Nat) (Sq1 : TSq1) (t5 : List Fl) (t6 : Int) (e0 : Bool -> Bool) (e1 : Bool) : (Int) -> ((Int) -> Bool) -> Bool := fun v_ K => match v_ with
  | t7 => (cond (decide (t7 < t6)) ((inR t7 (List.length t5)) && (Sq1 (List.getD t5 (Int.toNat t7) none) (fun cr => (cond (!cr) (e0 false) ((fits .i64 (t7 + 1)) && (K (t7 + 1))))))) e1)

def Gq4 (N : Nat) (Sq1 : TSq1) (l : List Fl) (k0 : Bool -> Bool) : Bool :=
  (iterG N (stq76 N Sq1 l (((List.length l) : Nat) : Int) (fun t2 => (k0 t2)) (k0 true)) 0)

def sq4 (N : Nat) : TSq4 := Gq4 N (sq1 N)

abbrev TSq53 : Type := Int -> Int -> List Fl -> (Int -> Bool) -> Bool

def Gq53 (N : Nat) (Sq4 : TSq4) (m_0 m_1 : Int) (m_2 : List Fl) (k0 : Int -> Bool) : Bool :=
  (cond ((decide (m_0 < 0)) == false) (cond ((decide (m_0 > 12)) == false) (cond ((decide (m_1 < 0)) == false) (cond (decide (m_1 > 12)) (k0 1) ((fits .i64 (m_0 * m_1)) && (cond ((((List.length m_2) : Nat) : Int) != (m_0 * m_1)) (k0 3) (Sq4 m_2 (fun cr => (cond (!cr) (k0 4) (k0 0))))))) (k0 1)) (k0 1)) (k0 1))

def sq53 (N : Nat) : TSq53 := Gq53 N (sq4 N)

abbrev TSq52 : Type := Int -> Int -> Int -> (Int -> Bool) -> Bool

def Gq52 (N : Nat) (rows cols n : Int) (k0 : Int -> Bool) : Bool :=
  (cond ((decide (rows < 0)) == false) (cond ((decide (rows > 12)) == false) (cond ((decide (cols < 0)) == false) (cond (decide (cols > 12)) (k0 1) ((fits .i64 (rows * cols)) && (cond (n != (rows * cols)) (k0 3) (k0 0)))) (k0 1)) (k0 1)) (k0 1))

def sq52 (N : Nat) : TSq52 := Gq52 N

abbrev TSq26 : Type := Int -> Int -> List Fl -> (Int -> Bool) -> Bool

def Gq26 (N : Nat) (Sq52 : TSq52) (Sq4 : TSq4) (m_0 m_1 : Int) (m_2 : List Fl) (k0 : Int -> Bool) : Bool :=
  (Sq52 m_0 m_1 (((List.length m_2) : Nat) : Int) (fun nr => (cond (nr != 0) (k0 nr) (Sq4 m_2 (fun cr => (cond (!cr) (k0 4) (k0 0)))))))

def sq26 (N : Nat) : TSq26 := Gq26 N (sq52 N) (sq4 N)

abbrev TSq55 : Type := Int -> Int -> List Fl -> Int -> Int -> (Fl -> Bool) -> Bool

def Gq55 (N : Nat) (m_0 m_1 : Int) (m_2 : List Fl) (i j : Int) (k0 : Fl -> Bool) : Bool :=
  ((fits .i64 (i * m_1)) && ((fits .i64 ((i * m_1) + j)) && ((inR ((i * m_1) + j) (List.length m_2)) && (k0 (List.getD m_2 (Int.toNat ((i * m_1) + j)) none)))))

def sq55 (N : Nat) : TSq55 := Gq55 N

abbrev TSq15 : Type := Fl -> Fl -> (Bool -> Bool) -> Bool

def Gq15 (N : Nat) (Sq42 : TSq42) (a b : Fl) (k0 : Bool -> Bool) : Bool :=
  (Sq42 a (fun nr => (Sq42 b (fun nr_1 => (k0 (nr == nr_1))))))

def sq15 (N : Nat) : TSq15 := Gq15 N (sq42 N)

abbrev TSq30 : Type := Int -> Int -> List Fl -> (Int -> Bool) -> Bool

def stq73 (N : Nat) (Sq26 : TSq26) (Sq55 : TSq55) (Sq15 : TSq15) (i_1 m_5 m_6 : Int) (m_7 : List Fl) (e0 : Int -> Bool) (e1 : Bool) : (Int) -> ((Int) -> Bool) -> Bool := fun v_ K => match v_ with
  | j => (cond (decide (j < m_6)) (Sq55 m_5 m_6 m_7 i_1 j (fun xr_1 => (Sq15 xr_1 (some 0) (fun cr => (cond (!cr) (e0 93) ((fits .i64 (j + 1)) && (K (j + 1)))))))) e1)

def stq81 (N : Nat) (Sq26 : TSq26) (Sq55 : TSq55) (Sq15 : TSq15) (m m_3 : Int) (m_4 : List Fl) (e0 : Int -> Bool) (e1 : Bool) : (Int) -> ((Int) -> Bool) -> Bool := fun v_ K => match v_ with
  | i => (cond (decide (i < m)) (Sq55 m m_3 m_4 i i (fun xr => (cond (!(fgt xr (some 0))) (e0 93) ((fits .i64 (i + 1)) && (iterG N (stq73 N Sq26 Sq55 Sq15 i m m_3 m_4 (fun t2 => (e0 t2)) ((fits .i64 (i + 1)) && (K (i + 1)))) (i + 1)))))) e1)

def Gq30 (N : Nat) (Sq26 : TSq26) (Sq55 : TSq55) (Sq15 : TSq15) (m_0 m_1 : Int) (m_2 : List Fl) (k0 : Int -> Bool) : Bool :=
  (Sq26 m_0 m_1 m_2 (fun nr => (cond (nr != 0) (k0 nr) (cond (m_0 != m_1) (k0 3) (iterG N (stq81 N Sq26 Sq55 Sq15 m_0 m_1 m_2 (fun t2_1 => (k0 t2_1)) (k0 0)) 0)))))

def sq30 (N : Nat) : TSq30 := Gq30 N (sq26 N) (sq55 N) (sq15 N)

abbrev TSq8 : Type := List Fl -> Int -> Int -> List Fl -> (Int -> Bool) -> Bool

def Gq8 (N : Nat) (Sq53 : TSq53) (Sq4 : TSq4) (Sq30 : TSq30) (s_0 : List Fl) (s_1 s_2 : Int) (s_3 : List Fl) (k0 : Int -> Bool) : Bool :=
  (Sq53 s_1 s_2 s_3 (fun nr => (cond (nr != 0) (k0 nr) (cond ((s_1 != s_2) == false) (cond ((((List.length s_0) : Nat) : Int) != s_1) (k0 3) (Sq4 s_0 (fun cr => (cond (!cr) (k0 4) (Sq30 s_1 s_2 s_3 (fun nr_1 => (k0 nr_1))))))) (k0 3)))))

def sq8 (N : Nat) : TSq8 := Gq8 N (sq53 N) (sq4 N) (sq30 N)

abbrev TSq58 : Type := Int -> Int -> List Fl -> (Int -> Bool) -> Bool

def Gq58 (N : Nat) (Sq26 : TSq26) (m_0 m_1 : Int) (m_2 : List Fl) (k0 : Int -> Bool) : Bool :=
  (Sq26 m_0 m_1 m_2 (fun nr => (k0 nr)))

def sq58 (N : Nat) : TSq58 := Gq58 N (sq26 N)

abbrev TSq39 : Type := Int -> Int -> Int -> List Fl -> List Fl -> List Fl -> (Int -> Bool) -> Bool

def Gq39 (N : Nat) (Sq58 : TSq58) (n h_0 h_1 : Int) (h_2 r z : List Fl) (k0 : Int -> Bool) : Bool :=
  (Sq58 h_0 h_1 h_2 (fun nr => (cond (nr != 0) (k0 nr) (cond ((h_1 != n) == false) (cond (((((List.length r) : Nat) : Int) != h_0) == false) (cond ((((List.length z) : Nat) : Int) != h_0) (k0 3) (k0 0)) (k0 3)) (k0 3)))))

def sq39 (N : Nat) : TSq39 := Gq39 N (sq58 N)

abbrev TSq7 : Type := List Int -> (Int -> Bool) -> Bool

def st_z08_First_0 (N : Nat) (l_1 : List Int) (e0 : Int -> Bool) (e1 : Bool) : (Int) -> ((Int) -> Bool) -> Bool := fun v_ K => match v_ with
  | i => (cond (decide (i < (((List.length l_1) : Nat) : Int))) ((inR i (List.length l_1)) && (cond ((List.getD l_1 (Int.toNat i) 0) != 0) ((inR i (List.length l_1)) && (e0 (List.getD l_1 (Int.toNat i) 0))) ((fits .i64 (i + 1)) && (K (i + 1))))) e1)

def Gq7 (N : Nat) (l : List Int) (k0 : Int -> Bool) : Bool :=
  (iterG N (st_z08_First_0 N l (fun t2 => (k0 t2)) (k0 0)) 0)

def sq7 (N : Nat) : TSq7 := Gq7 N

abbrev TSq21 : Type := Int -> Int -> List Fl -> Int -> Int -> (Fl -> Bool) -> Bool

def Gq21 (N : Nat) (m_0 m_1 : Int) (m_2 : List Fl) (i j : Int) (k0 : Fl -> Bool) : Bool :=
  ((fits .i64 (i * m_1)) && ((fits .i64 ((i * m_1) + j)) && ((inR ((i * m_1) + j) (List.length m_2)) && (k0 (List.getD m_2 (Int.toNat ((i * m_1) + j)) none)))))

def sq21 (N : Nat) : TSq21 := Gq21 N

abbrev TSq49 : Type := Int -> Int -> List Fl -> Int -> (List Fl -> Bool) -> Bool

def st_z08_Row_0 (N : Nat) (Sq21 : TSq21) (i_2 m_5 m_6 : Int) (m_7 : List Fl) (e0 : List Fl -> Bool) : (Int × List Fl) -> ((Int × List Fl) -> Bool) -> Bool := fun v_ K => match v_ with
  | (j_1, out) => (cond (decide (j_1 < m_6)) (Sq21 m_5 m_6 m_7 i_2 j_1 (fun xr_1 => ((decide ((List.length (out ++ [xr_1])) * 8 <= 140737488355328)) && ((fits .i64 (j_1 + 1)) && (K ((j_1 + 1), (out ++ [xr_1]))))))) (e0 out))

def Gq49 (N : Nat) (Sq21 : TSq21) (m_0 m_1 : Int) (m_2 : List Fl) (i : Int) (k0 : List Fl -> Bool) : Bool :=
  (iterG N (st_z08_Row_0 N Sq21 i m_0 m_1 m_2 (fun out_1 => (k0 out_1))) (0, []))

def sq49 (N : Nat) : TSq49 := Gq49 N (sq21 N)

abbrev TSq32 : Type := Int -> List Fl -> Fl -> (Int -> Bool) -> Bool

def Gq32 (N : Nat) (Sq4 : TSq4) (Sq1 : TSq1) (n : Int) (h : List Fl) (r : Fl) (k0 : Int -> Bool) : Bool :=
  (cond ((((List.length h) : Nat) : Int) != n) (k0 3) (Sq4 h (fun cr => (cond ((!cr) == false) (Sq1 r (fun cr_1 => (cond (!cr_1) (k0 4) (cond (!(fgt r (some 0))) (k0 152) (k0 0))))) (k0 4)))))

def sq32 (N : Nat) : TSq32 := Gq32 N (sq4 N) (sq1 N)

abbrev TSq45 : Type := Bool -> Int -> (Int -> Bool) -> Bool

def Gq45 (N : Nat) (is : Bool) (e : Int) (k0 : Int -> Bool) : Bool :=
  (cond is (k0 e) (k0 0))

def sq45 (N : Nat) : TSq45 := Gq45 N

abbrev TSq10 : Type := Fl -> Bool -> (Bool -> Bool) -> Bool

def Gq10 (N : Nat) (Sq1 : TSq1) (x : Fl) (b : Bool) (k0 : Bool -> Bool) : Bool :=
  (cond (b == false) (Sq1 x (fun cr => (k0 (!cr)))) (k0 true))

def sq10 (N : Nat) : TSq10 := Gq10 N (sq1 N)

abbrev TSq22 : Type := List Fl -> List Fl -> Bool -> (Fl -> Bool -> Bool) -> Bool

def st_zs_Dot_p0_0 (N : Nat) (Sq10 : TSq10) (a_1 b_2 : List Fl) (t10 : Int) (e0 : Fl -> Bool -> Bool) : (Fl × Int × Bool) -> ((Fl × Int × Bool) -> Bool) -> Bool := fun v_ K => match v_ with
  | (t, t11, s) => (cond (decide (t11 < t10)) ((inR t11 (List.length a_1)) && ((inR t11 (List.length b_2)) && (Sq10 (fmul (List.getD a_1 (Int.toNat t11) none) (List.getD b_2 (Int.toNat t11) none)) s (fun cr => (Sq10 (fadd t (fmul (List.getD a_1 (Int.toNat t11) none) (List.getD b_2 (Int.toNat t11) none))) cr (fun cr_1 => ((fits .i64 (t11 + 1)) && (K ((fadd t (fmul (List.getD a_1 (Int.toNat t11) none) (List.getD b_2 (Int.toNat t11) none))), (t11 + 1), cr_1))))))))) (e0 t s))

def Gq22 (N : Nat) (Sq10 : TSq10) (a b : List Fl) (b_1 : Bool) (k0 : Fl -> Bool -> Bool) : Bool :=
  (iterG N (st_zs_Dot_p0_0 N Sq10 a b (((List.length a) : Nat) : Int) (fun t_1 b0 => (k0 t_1 b0))) ((some 0), 0, b_1))

def sq22 (N : Nat) : TSq22 := Gq22 N (sq10 N)

abbrev TSq38 : Type := Int -> Int -> List Fl -> Int -> (List Fl -> Bool) -> Bool

def st_z08_Col_0 (N : Nat) (Sq21 : TSq21) (j_2 m_5 m_6 : Int) (m_7 : List Fl) (e0 : List Fl -> Bool) : (Int × List Fl) -> ((Int × List Fl) -> Bool) -> Bool := fun v_ K => match v_ with
  | (i_1, out) => (cond (decide (i_1 < m_5)) (Sq21 m_5 m_6 m_7 i_1 j_2 (fun xr_1 => ((decide ((List.length (out ++ [xr_1])) * 8 <= 140737488355328)) && ((fits .i64 (i_1 + 1)) && (K ((i_1 + 1), (out ++ [xr_1]))))))) (e0 out))

def Gq38 (N : Nat) (Sq21 : TSq21) (m_0 m_1 : Int) (m_2 : List Fl) (j : Int) (k0 : List Fl -> Bool) : Bool :=
  (iterG N (st_z08_Col_0 N Sq21 j m_0 m_1 m_2 (fun out_1 => (k0 out_1))) (0, []))

def sq38 (N : Nat) : TSq38 := Gq38 N (sq21 N)

abbrev TSq6 : Type := List Fl -> Int -> Int -> List Fl -> List Fl -> Fl -> Bool -> (Fl -> Bool -> List Fl -> List Fl -> Bool) -> Bool

def st_z16_seen_p0_0 (N : Nat) (Sq22 : TSq22) (Sq38 : TSq38) (Sq10 : TSq10) (h_1 : List Fl) (n : Int) (m : Fl) (s : List Fl) (s_4 s_5 : Int) (s_6 a : List Fl) (e0 : Bool -> List Fl -> Bool) : (Int × Bool × List Fl) -> ((Int × Bool × List Fl) -> Bool) -> Bool := fun v_ K => match v_ with
  | (j, steps, v) => (cond (decide (j < n)) (Sq38 s_4 s_5 s_6 j (fun xsr => (Sq22 xsr h_1 steps (fun xr_1 cr_1 => ((inR j (List.length v)) && ((decide ((Int.toNat j) < (List.length v))) && ((fits .i64 (j + 1)) && (K ((j + 1), cr_1, (List.set v (Int.toNat j) xr_1)))))))))) (e0 steps v))

def st_z16_seen_p0_2 (N : Nat) (Sq22 : TSq22) (Sq38 : TSq38) (Sq10 : TSq10) (m_1 : Fl) (v_2 : List Fl) (e0 : Bool -> List Fl -> Bool) : (Int × Bool × List Fl) -> ((Int × Bool × List Fl) -> Bool) -> Bool := fun v_ K => match v_ with
  | (j_1, steps_2, a_1) => (cond (decide (j_1 >= 0)) ((fits .i64 (j_1 + 1)) && ((inR (j_1 + 1) (List.length a_1)) && ((decide ((Int.toNat (j_1 + 1)) < (List.length a_1))) && ((inR j_1 (List.length v_2)) && ((decide ((Int.toNat j_1) < (List.length v_2))) && ((inR j_1 (List.length v_2)) && ((decide ((Int.toNat j_1) < (List.length v_2))) && (Sq10 (fmul (List.getD v_2 (Int.toNat j_1) none) (List.getD v_2 (Int.toNat j_1) none)) steps_2 (fun cr_2 => (Sq10 (fadd (List.getD a_1 (Int.toNat (j_1 + 1)) none) (fmul (List.getD v_2 (Int.toNat j_1) none) (List.getD v_2 (Int.toNat j_1) none))) cr_2 (fun cr_3 => ((inR j_1 (List.length a_1)) && ((decide ((Int.toNat j_1) < (List.length a_1))) && ((fits .i64 (j_1 - 1)) && (K ((j_1 - 1), cr_3, (List.set a_1 (Int.toNat j_1) (fadd (List.getD a_1 (Int.toNat (j_1 + 1)) none) (fmul (List.getD v_2 (Int.toNat j_1) none) (List.getD v_2 (Int.toNat j_1) none)))))))))))))))))))) (e0 steps_2 a_1))

def Gq6 (N : Nat) (Sq22 : TSq22) (Sq38 : TSq38) (Sq10 : TSq10) (s_0 : List Fl) (s_1 s_2 : Int) (s_3 h : List Fl) (r : Fl) (b : Bool) (k0 : Fl -> Bool -> List Fl -> List Fl -> Bool) : Bool :=
  ((mkOk 8 (((List.length h) : Nat) : Int) (((List.length h) : Nat) : Int)) && ((fits .i64 ((((List.length h) : Nat) : Int) + 1)) && ((mkOk 8 ((((List.length h) : Nat) : Int) + 1) ((((List.length h) : Nat) : Int) + 1)) && (Sq22 h s_0 b (fun xr cr => ((inR (((List.length h) : Nat) : Int) (List.length (List.replicate (Int.toNat ((((List.length h) : Nat) : Int) + 1)) (some 0)))) && ((decide ((Int.toNat (((List.length h) : Nat) : Int)) < (List.length (List.replicate (Int.toNat ((((List.length h) : Nat) : Int) + 1)) (some 0))))) && (iterG N (st_z16_seen_p0_0 N Sq22 Sq38 Sq10 h (((List.length h) : Nat) : Int) xr s_0 s_1 s_2 s_3 (List.set (List.replicate (Int.toNat ((((List.length h) : Nat) : Int) + 1)) (some 0)) (Int.toNat (((List.length h) : Nat) : Int)) r) (fun steps_1 v_1 => ((fits .i64 ((((List.length h) : Nat) : Int) - 1)) && (iterG N (st_z16_seen_p0_2 N Sq22 Sq38 Sq10 xr v_1 (fun b0 a_2 => (k0 xr b0 v_1 a_2))) (((((List.length h) : Nat) : Int) - 1), steps_1, (List.set (List.replicate (Int.toNat ((((List.length h) : Nat) : Int) + 1)) (some 0)) (Int.toNat (((List.length h) : Nat) : Int)) r)))))) (0, cr, (List.replicate (Int.toNat (((List.length h) : Nat) : Int)) (some 0)))))))))))

def sq6 (N : Nat) : TSq6 := Gq6 N (sq22 N) (sq38 N) (sq10 N)

abbrev TSq31 : Type := Int -> Int -> (List Fl -> Bool) -> Bool

def Gq31 (N : Nat) (rows cols : Int) (k0 : List Fl -> Bool) : Bool :=
  ((fits .i64 (rows * cols)) && ((mkOk 8 (rows * cols) (rows * cols)) && (k0 (List.replicate (Int.toNat (rows * cols)) (some 0)))))

def sq31 (N : Nat) : TSq31 := Gq31 N

abbrev TSq14 : Type := Int -> Int -> Int -> Int -> Fl -> List Fl -> (List Fl -> Bool) -> Bool

def Gq14 (N : Nat) (m_0 m_1 i j : Int) (x : Fl) (b : List Fl) (k0 : List Fl -> Bool) : Bool :=
  ((fits .i64 (i * m_1)) && ((fits .i64 ((i * m_1) + j)) && ((inR ((i * m_1) + j) (List.length b)) && ((decide ((Int.toNat ((i * m_1) + j)) < (List.length b))) && (k0 (List.set b (Int.toNat ((i * m_1) + j)) x))))))

def sq14 (N : Nat) : TSq14 := Gq14 N

abbrev TSq43 : Type := Int -> Int -> Int -> Int -> List Fl -> (Fl -> Bool) -> Bool

def Gq43 (N : Nat) (m_0 m_1 i j : Int) (b : List Fl) (k0 : Fl -> Bool) : Bool :=
  ((fits .i64 (i * m_1)) && ((fits .i64 ((i * m_1) + j)) && ((inR ((i * m_1) + j) (List.length b)) && ((decide ((Int.toNat ((i * m_1) + j)) < (List.length b))) && (k0 (List.getD b (Int.toNat ((i * m_1) + j)) none))))))

def sq43 (N : Nat) : TSq43 := Gq43 N

abbrev TSq3 : Type := Int -> Int -> List Fl -> List Fl -> (Int -> Int -> Int -> Bool) -> (Int -> Bool) -> Bool

def stq78 (N : Nat) (Sq43 : TSq43) (x b1 : List Fl) (l l_2 t4 t4_1 : Int) (e0 : Int -> Int -> Int -> Bool) (e1 : Bool) : (Int) -> ((Int) -> Bool) -> Bool := fun v_ K => match v_ with
  | i => (cond (decide (i < l)) (Sq43 l l_2 i i b1 (fun xr => (cond (!(fgt xr (some 0))) (e0 93 0 0) ((fits .i64 (i + 1)) && (K (i + 1)))))) e1)

def Gq3 (N : Nat) (Sq43 : TSq43) (l_0 l_1 : Int) (b b_1 : List Fl) (k0 : Int -> Int -> Int -> Bool) (k1 : Int -> Bool) : Bool :=
  (iterG N (stq78 N Sq43 b b_1 l_0 l_1 0 0 (fun t5 t4_2 t4_3 => (k0 t4_2 t4_3 t5)) (k1 0)) 0)

def sq3 (N : Nat) : TSq3 := Gq3 N (sq43 N)

abbrev TSq23 : Type := List Fl -> Int -> Int -> List Fl -> List Fl -> Fl -> Fl -> (List Fl -> Int -> Int -> List Fl -> Fl -> Fl -> Fl -> List Fl -> Int -> Bool) -> Bool

def st_z16_Update_2 (N : Nat) (Sq8 : TSq8) (Sq32 : TSq32) (Sq1 : TSq1) (Sq45 : TSq45) (Sq7 : TSq7) (Sq6 : TSq6) (Sq10 : TSq10) (Sq31 : TSq31) (Sq20 : TSq20) (Sq21 : TSq21) (Sq14 : TSq14) (Sq3 : TSq3) (n_1 : Int) (y_1 : Fl) (j_1 : Int) (c t : Fl) (s_7 : List Fl) (s_8 s_9 : Int) (s_10 : List Fl) (t8_2 t8_3 : Int) (t9_3 t9_4 t9_5 : Fl) (v_1 a_1 : List Fl) (l_2 l_3 : Int) (e0 : Bool -> List Fl -> List Fl -> Bool) : (Int × Bool × List Fl × List Fl) -> ((Int × Bool × List Fl × List Fl) -> Bool) -> Bool := fun v_ K => match v_ with
  | (i, steps_1, w_1, b8_1) => (cond (decide (i < n_1)) (Sq21 s_8 s_9 s_10 i j_1 (fun xr_3 => (Sq10 (fmul c xr_3) steps_1 (fun cr_6 => ((inR i (List.length w_1)) && ((decide ((Int.toNat i) < (List.length w_1))) && (Sq10 (fmul t (List.getD w_1 (Int.toNat i) none)) cr_6 (fun c7 => (Sq10 (fsub (fmul c xr_3) (fmul t (List.getD w_1 (Int.toNat i) none))) c7 (fun c8 => (Sq14 l_2 l_3 i j_1 (fsub (fmul c xr_3) (fmul t (List.getD w_1 (Int.toNat i) none))) b8_1 (fun xsr_3 => ((inR i (List.length w_1)) && ((decide ((Int.toNat i) < (List.length w_1))) && ((inR j_1 (List.length v_1)) && ((decide ((Int.toNat j_1) < (List.length v_1))) && (Sq10 (fmul (List.getD v_1 (Int.toNat j_1) none) xr_3) c8 (fun c9 => (Sq10 (fadd (List.getD w_1 (Int.toNat i) none) (fmul (List.getD v_1 (Int.toNat j_1) none) xr_3)) c9 (fun c10 => ((inR i (List.length w_1)) && ((decide ((Int.toNat i) < (List.length w_1))) && ((fits .i64 (i + 1)) && (K ((i + 1), c10, (List.set w_1 (Int.toNat i) (fadd (List.getD w_1 (Int.toNat i) none) (fmul (List.getD v_1 (Int.toNat j_1) none) xr_3))), xsr_3))))))))))))))))))))))))) (e0 steps_1 w_1 b8_1))

def st_z16_Update_0 (N : Nat) (Sq8 : TSq8) (Sq32 : TSq32) (Sq1 : TSq1) (Sq45 : TSq45) (Sq7 : TSq7) (Sq6 : TSq6) (Sq10 : TSq10) (Sq31 : TSq31) (Sq20 : TSq20) (Sq21 : TSq21) (Sq14 : TSq14) (Sq3 : TSq3) (n : Int) (y : Fl) (s : List Fl) (s_4 s_5 : Int) (s_6 : List Fl) (t8 t8_1 : Int) (t9 t9_1 t9_2 : Fl) (v a : List Fl) (l l_1 : Int) (e0 : Bool -> List Fl -> List Fl -> Bool) : (Int × Bool × List Fl × List Fl) -> ((Int × Bool × List Fl × List Fl) -> Bool) -> Bool := fun v_ K => match v_ with
  | (j, steps, w, b8) => (cond (decide (j >= 0)) ((inR j (List.length a)) && ((decide ((Int.toNat j) < (List.length a))) && (Sq20 (List.getD a (Int.toNat j) none) (fun xr_1 => ((fits .i64 (j + 1)) && ((inR (j + 1) (List.length a)) && ((decide ((Int.toNat (j + 1)) < (List.length a))) && (Sq20 (List.getD a (Int.toNat (j + 1)) none) (fun xr_2 => (Sq10 (fdiv xr_2 xr_1) steps (fun cr_3 => ((inR j (List.length v)) && ((decide ((Int.toNat j) < (List.length v))) && (Sq10 (fmul xr_1 xr_2) cr_3 (fun cr_4 => (Sq10 (fdiv (List.getD v (Int.toNat j) none) (fmul xr_1 xr_2)) cr_4 (fun cr_5 => (iterG N (st_z16_Update_2 N Sq8 Sq32 Sq1 Sq45 Sq7 Sq6 Sq10 Sq31 Sq20 Sq21 Sq14 Sq3 n y j (fdiv xr_2 xr_1) (fdiv (List.getD v (Int.toNat j) none) (fmul xr_1 xr_2)) s s_4 s_5 s_6 t8 t8_1 t9 t9_1 t9_2 v a l l_1 (fun steps_2 w_2 b8_2 => ((fits .i64 (j - 1)) && (K ((j - 1), steps_2, w_2, b8_2))))) (j, cr_5, w, b8))))))))))))))))))) (e0 steps w b8))

def st_z16_Update_4 (N : Nat) (Sq8 : TSq8) (Sq32 : TSq32) (Sq1 : TSq1) (Sq45 : TSq45) (Sq7 : TSq7) (Sq6 : TSq6) (Sq10 : TSq10) (Sq31 : TSq31) (Sq20 : TSq20) (Sq21 : TSq21) (Sq14 : TSq14) (Sq3 : TSq3) (n_4 : Int) (y_4 : Fl) (s_19 : List Fl) (s_20 s_21 : Int) (s_22 : List Fl) (t8_8 t8_9 : Int) (t9_12 t9_13 t9_14 : Fl) (a_4 w_6 : List Fl) (l_8 l_9 : Int) (b9 : List Fl) (e0 : Bool -> List Fl -> List Fl -> Bool) : (Int × Bool × List Fl × List Fl) -> ((Int × Bool × List Fl × List Fl) -> Bool) -> Bool := fun v_ K => match v_ with
  | (i_3, steps_6, k__1, x) => (cond (decide (i_3 < n_4)) ((inR i_3 (List.length w_6)) && ((decide ((Int.toNat i_3) < (List.length w_6))) && ((inR 0 (List.length a_4)) && ((decide (0 < (List.length a_4))) && (Sq10 (fdiv (List.getD w_6 (Int.toNat i_3) none) (List.getD a_4 0 none)) steps_6 (fun c17 => ((decide ((List.length (k__1 ++ [(fdiv (List.getD w_6 (Int.toNat i_3) none) (List.getD a_4 0 none))])) * 8 <= 140737488355328)) && ((inR i_3 (List.length s_19)) && ((inR i_3 (List.length (k__1 ++ [(fdiv (List.getD w_6 (Int.toNat i_3) none) (List.getD a_4 0 none))]))) && ((decide ((Int.toNat i_3) < (List.length (k__1 ++ [(fdiv (List.getD w_6 (Int.toNat i_3) none) (List.getD a_4 0 none))])))) && (Sq10 (fmul (List.getD (k__1 ++ [(fdiv (List.getD w_6 (Int.toNat i_3) none) (List.getD a_4 0 none))]) (Int.toNat i_3) none) y_4) c17 (fun c18 => (Sq10 (fadd (List.getD s_19 (Int.toNat i_3) none) (fmul (List.getD (k__1 ++ [(fdiv (List.getD w_6 (Int.toNat i_3) none) (List.getD a_4 0 none))]) (Int.toNat i_3) none) y_4)) c18 (fun c19 => ((decide ((List.length (x ++ [(fadd (List.getD s_19 (Int.toNat i_3) none) (fmul (List.getD (k__1 ++ [(fdiv (List.getD w_6 (Int.toNat i_3) none) (List.getD a_4 0 none))]) (Int.toNat i_3) none) y_4))])) * 8 <= 140737488355328)) && ((fits .i64 (i_3 + 1)) && (K ((i_3 + 1), c19, (k__1 ++ [(fdiv (List.getD w_6 (Int.toNat i_3) none) (List.getD a_4 0 none))]), (x ++ [(fadd (List.getD s_19 (Int.toNat i_3) none) (fmul (List.getD (k__1 ++ [(fdiv (List.getD w_6 (Int.toNat i_3) none) (List.getD a_4 0 none))]) (Int.toNat i_3) none) y_4))]))))))))))))))))))) (e0 steps_6 k__1 x))

def Gq23 (N : Nat) (Sq8 : TSq8) (Sq32 : TSq32) (Sq1 : TSq1) (Sq45 : TSq45) (Sq7 : TSq7) (Sq6 : TSq6) (Sq10 : TSq10) (Sq31 : TSq31) (Sq20 : TSq20) (Sq21 : TSq21) (Sq14 : TSq14) (Sq3 : TSq3) (s_0 : List Fl) (s_1 s_2 : Int) (s_3 h : List Fl) (r z : Fl) (k0 : List Fl -> Int -> Int -> List Fl -> Fl -> Fl -> Fl -> List Fl -> Int -> Bool) : Bool :=
  (Sq8 s_0 s_1 s_2 s_3 (fun nr => (Sq32 (((List.length s_0) : Nat) : Int) h r (fun nr_1 => (Sq1 z (fun cr => (Sq45 (!cr) 4 (fun nr_2 => (Sq7 [nr, nr_1, nr_2] (fun nr_3 => (cond (nr_3 != 0) (k0 [] 0 0 [] (some 0) (some 0) (some 0) [] nr_3) (Sq6 s_0 s_1 s_2 s_3 h r false (fun xr cr_1 xsr xsr_1 => (Sq10 (fsub z xr) cr_1 (fun cr_2 => ((mkOk 8 (((List.length h) : Nat) : Int) (((List.length h) : Nat) : Int)) && (Sq31 (((List.length h) : Nat) : Int) (((List.length h) : Nat) : Int) (fun xsr_2 => ((fits .i64 ((((List.length h) : Nat) : Int) - 1)) && (iterG N (st_z16_Update_0 N Sq8 Sq32 Sq1 Sq45 Sq7 Sq6 Sq10 Sq31 Sq20 Sq21 Sq14 Sq3 (((List.length h) : Nat) : Int) (fsub z xr) s_0 s_1 s_2 s_3 0 0 (some 0) (some 0) (some 0) xsr xsr_1 (((List.length h) : Nat) : Int) (((List.length h) : Nat) : Int) (fun steps_3 w_3 b7 => (iterG N (st_z16_Update_4 N Sq8 Sq32 Sq1 Sq45 Sq7 Sq6 Sq10 Sq31 Sq20 Sq21 Sq14 Sq3 (((List.length h) : Nat) : Int) (fsub z xr) s_0 s_1 s_2 s_3 0 0 (some 0) (some 0) (some 0) xsr_1 w_3 (((List.length h) : Nat) : Int) (((List.length h) : Nat) : Int) b7 (fun steps_7 k__2 x_1 => (Sq10 (fmul (fsub z xr) (fsub z xr)) steps_7 (fun c20 => ((inR 0 (List.length xsr_1)) && ((decide (0 < (List.length xsr_1))) && (Sq10 (fdiv (fmul (fsub z xr) (fsub z xr)) (List.getD xsr_1 0 none)) c20 (fun c21 => (cond c21 (k0 [] 0 0 [] (some 0) (some 0) (some 0) [] 5) (Sq3 (((List.length h) : Nat) : Int) (((List.length h) : Nat) : Int) x_1 b7 (fun nr_4 n5 n6 => (cond (n6 != 0) (k0 [] 0 0 [] (some 0) (some 0) (some 0) [] n6) ((inR 0 (List.length xsr_1)) && ((decide (0 < (List.length xsr_1))) && (k0 [] nr_4 n5 [] (fsub z xr) (List.getD xsr_1 0 none) (fdiv (fmul (fsub z xr) (fsub z xr)) (List.getD xsr_1 0 none)) k__2 0))))) (fun n7 => (cond (n7 != 0) (k0 [] 0 0 [] (some 0) (some 0) (some 0) [] n7) ((inR 0 (List.length xsr_1)) && ((decide (0 < (List.length xsr_1))) && (k0 x_1 (((List.length h) : Nat) : Int) (((List.length h) : Nat) : Int) b7 (fsub z xr) (List.getD xsr_1 0 none) (fdiv (fmul (fsub z xr) (fsub z xr)) (List.getD xsr_1 0 none)) k__2 0))))))))))))))) (0, steps_3, [], [])))) (((((List.length h) : Nat) : Int) - 1), cr_2, (List.replicate (Int.toNat (((List.length h) : Nat) : Int)) (some 0)), xsr_2)))))))))))))))))))))

def sq23 (N : Nat) : TSq23 := Gq23 N (sq8 N) (sq32 N) (sq1 N) (sq45 N) (sq7 N) (sq6 N) (sq10 N) (sq31 N) (sq20 N) (sq21 N) (sq14 N) (sq3 N)

abbrev TSq34 : Type := List Fl -> Int -> Int -> List Fl -> Int -> Int -> List Fl -> List Fl -> List Fl -> (Int -> Int -> Int -> Int -> Bool) -> (List Fl -> Int -> Int -> List Fl -> Int -> Int -> List RY1 -> Bool) -> Bool

def stq82 (N : Nat) (Sq8 : TSq8) (Sq39 : TSq39) (Sq7 : TSq7) (Sq49 : TSq49) (Sq23 : TSq23) (r_2 z_2 : List Fl) (h_5 h_6 : Int) (h_7 : List Fl) (t8_2 t8_3 : Int) (e0 : Int -> Int -> Int -> Int -> Bool) (e1 : List Fl -> Int -> Int -> List Fl -> List RY1 -> Bool) : (Int × List Fl × Int × Int × List Fl × List RY1) -> ((Int × List Fl × Int × Int × List Fl × List RY1) -> Bool) -> Bool := fun v_ K => match v_ with
  | (i_1, s_7, s_8, s_9, s_10, l) => (cond (decide (i_1 < h_5)) (Sq49 h_5 h_6 h_7 i_1 (fun y4 => ((inR i_1 (List.length r_2)) && ((inR i_1 (List.length z_2)) && (Sq23 s_7 s_8 s_9 s_10 y4 (List.getD r_2 (Int.toNat i_1) none) (List.getD z_2 (Int.toNat i_1) none) (fun y5 n6 n7 y6 xr_3 xr_4 xr_5 y7 n8 => (cond (n8 != 0) (e0 i_1 n8 0 0) ((decide ((List.length (l ++ [(xr_3, (xr_4, (xr_5, y7)))])) * 48 <= 140737488355328)) && ((fits .i64 (i_1 + 1)) && (K ((i_1 + 1), y5, n6, n7, y6, (l ++ [(xr_3, (xr_4, (xr_5, y7)))])))))))))))) (e1 s_7 s_8 s_9 s_10 l))

def Gq34 (N : Nat) (Sq8 : TSq8) (Sq39 : TSq39) (Sq7 : TSq7) (Sq49 : TSq49) (Sq23 : TSq23) (s_0 : List Fl) (s_1 s_2 : Int) (s_3 : List Fl) (h_0 h_1 : Int) (h_2 r z : List Fl) (k0 : Int -> Int -> Int -> Int -> Bool) (k1 : List Fl -> Int -> Int -> List Fl -> Int -> Int -> List RY1 -> Bool) : Bool :=
  (Sq8 s_0 s_1 s_2 s_3 (fun nr => (Sq39 (((List.length s_0) : Nat) : Int) h_0 h_1 h_2 r z (fun nr_1 => (Sq7 [nr, nr_1] (fun nr_2 => (cond (nr_2 != 0) (k0 0 0 0 nr_2) (iterG N (stq82 N Sq8 Sq39 Sq7 Sq49 Sq23 r z h_0 h_1 h_2 0 0 (fun t10 t11 t8_4 t8_5 => (k0 t8_4 t8_5 t10 t11)) (fun (s_11 : List Fl) (s_12 s_13 : Int) (s_14 : List Fl) (l_1 : List RY1) => (k1 s_11 s_12 s_13 s_14 0 0 l_1))) (0, s_0, s_1, s_2, s_3, [])))))))))

def sq34 (N : Nat) : TSq34 := Gq34 N (sq8 N) (sq39 N) (sq7 N) (sq49 N) (sq23 N)

abbrev TSq16 : Type := List Fl -> List Fl -> (Bool -> Bool) -> Bool

def stq80 (N : Nat) (Sq15 : TSq15) (a_1 b_1 : List Fl) (t12 : Int) (e0 : Bool -> Bool) (e1 : Bool) : (Int) -> ((Int) -> Bool) -> Bool := fun v_ K => match v_ with
  | t13 => (cond (decide (t13 < t12)) ((inR t13 (List.length a_1)) && ((inR t13 (List.length b_1)) && (Sq15 (List.getD a_1 (Int.toNat t13) none) (List.getD b_1 (Int.toNat t13) none) (fun cr => (cond (!cr) (e0 false) ((fits .i64 (t13 + 1)) && (K (t13 + 1)))))))) e1)

def Gq16 (N : Nat) (Sq15 : TSq15) (a b : List Fl) (k0 : Bool -> Bool) : Bool :=
  (cond ((((List.length a) : Nat) : Int) != (((List.length b) : Nat) : Int)) (k0 false) (iterG N (stq80 N Sq15 a b (((List.length a) : Nat) : Int) (fun t4 => (k0 t4)) (k0 true)) 0))

def sq16 (N : Nat) : TSq16 := Gq16 N (sq15 N)

abbrev TSq40 : Type := List Fl -> List Fl -> (Bool -> Bool) -> Bool

def Gq40 (N : Nat) (Sq16 : TSq16) (a b : List Fl) (k0 : Bool -> Bool) : Bool :=
  (Sq16 a b (fun cr => (k0 cr)))

def sq40 (N : Nat) : TSq40 := Gq40 N (sq16 N)

abbrev TSq37 : Type := Int -> Int -> List Fl -> Int -> Int -> List Fl -> (Bool -> Bool) -> Bool

def Gq37 (N : Nat) (Sq40 : TSq40) (a_0 a_1 : Int) (a_2 : List Fl) (b_0 b_1 : Int) (b_2 : List Fl) (k0 : Bool -> Bool) : Bool :=
  (cond ((a_0 == b_0) == true) (cond ((a_1 == b_1) == true) (Sq40 a_2 b_2 (fun cr => (k0 cr))) (k0 false)) (k0 false))

def sq37 (N : Nat) : TSq37 := Gq37 N (sq40 N)

abbrev TSq61 : Type := List Fl -> Int -> Int -> List Fl -> List Fl -> Int -> Int -> List Fl -> (Bool -> Bool) -> Bool

def Gq61 (N : Nat) (Sq16 : TSq16) (Sq37 : TSq37) (a_0 : List Fl) (a_1 a_2 : Int) (a_3 b_0 : List Fl) (b_1 b_2 : Int) (b_3 : List Fl) (k0 : Bool -> Bool) : Bool :=
  (Sq16 a_0 b_0 (fun cr => (cond (cr == true) (Sq37 a_1 a_2 a_3 b_1 b_2 b_3 (fun cr_1 => (k0 cr_1))) (k0 false))))

def sq61 (N : Nat) : TSq61 := Gq61 N (sq16 N) (sq37 N)

abbrev TSq47 : Type := List Fl -> Int -> Int -> List Fl -> Int -> List Fl -> Int -> Int -> List Fl -> Int -> (Bool -> Bool) -> Bool

def Gq47 (N : Nat) (Sq61 : TSq61) (a_0 : List Fl) (a_1 a_2 : Int) (a_3 : List Fl) (e : Int) (b_0 : List Fl) (b_1 b_2 : Int) (b_3 : List Fl) (n : Int) (k0 : Bool -> Bool) : Bool :=
  (cond ((e == n) == true) (Sq61 a_0 a_1 a_2 a_3 b_0 b_1 b_2 b_3 (fun cr => (k0 cr))) (k0 false))

def sq47 (N : Nat) : TSq47 := Gq47 N (sq61 N)

abbrev TSq19 : Type := Fl -> Fl -> Fl -> List Fl -> Fl -> Fl -> Fl -> List Fl -> (Bool -> Bool) -> Bool

def Gq19 (N : Nat) (Sq40 : TSq40) (a_0 a_1 a_2 : Fl) (a_3 : List Fl) (b_0 b_1 b_2 : Fl) (b_3 : List Fl) (k0 : Bool -> Bool) : Bool :=
  (Sq40 [a_0, a_1, a_2] [b_0, b_1, b_2] (fun cr => (cond (cr == true) (Sq40 a_3 b_3 (fun cr_1 => (k0 cr_1))) (k0 false))))

def sq19 (N : Nat) : TSq19 := Gq19 N (sq40 N)

abbrev TSq13 : Type := List RY1 -> List RY1 -> (Bool -> Bool) -> Bool

def stq77 (N : Nat) (Sq19 : TSq19) (a_1 b_1 : List RY1) (t12 : Int) (e0 : Bool -> Bool) (e1 : Bool) : (Int) -> ((Int) -> Bool) -> Bool := fun v_ K => match v_ with
  | t13 => (cond (decide (t13 < t12)) ((inR t13 (List.length a_1)) && ((inR t13 (List.length b_1)) && (Sq19 (List.getD a_1 (Int.toNat t13) (none, (none, (none, [])))).1 (List.getD a_1 (Int.toNat t13) (none, (none, (none, [])))).2.1 (List.getD a_1 (Int.toNat t13) (none, (none, (none, [])))).2.2.1 (List.getD a_1 (Int.toNat t13) (none, (none, (none, [])))).2.2.2 (List.getD b_1 (Int.toNat t13) (none, (none, (none, [])))).1 (List.getD b_1 (Int.toNat t13) (none, (none, (none, [])))).2.1 (List.getD b_1 (Int.toNat t13) (none, (none, (none, [])))).2.2.1 (List.getD b_1 (Int.toNat t13) (none, (none, (none, [])))).2.2.2 (fun cr => (cond (!cr) (e0 false) ((fits .i64 (t13 + 1)) && (K (t13 + 1)))))))) e1)

def Gq13 (N : Nat) (Sq19 : TSq19) (a b : List RY1) (k0 : Bool -> Bool) : Bool :=
  (cond ((((List.length a) : Nat) : Int) != (((List.length b) : Nat) : Int)) (k0 false) (iterG N (stq77 N Sq19 a b (((List.length a) : Nat) : Int) (fun t4 => (k0 t4)) (k0 true)) 0))

def sq13 (N : Nat) : TSq13 := Gq13 N (sq19 N)

abbrev TS_root_Update_thaw : Type := List Fl -> Int -> Int -> List Fl -> List Fl -> Fl -> Fl -> (Int -> Int -> Fl -> Fl -> Fl -> Int -> Bool) -> (Int -> Int -> Fl -> Fl -> Fl -> Int -> List Fl -> List Fl -> Bool) -> (Int -> Int -> Fl -> Fl -> Fl -> Int -> List Fl -> List Fl -> List Fl -> Bool) -> Bool

def st_root_Update_thaw_0 (N : Nat) (S_root_Check : TS_root_Check) (S_root_checkRow : TS_root_checkRow) (S_root_finite : TS_root_finite) (S_root_foresee_p0 : TS_root_foresee_p0) (S_root_steps_see_p0 : TS_root_steps_see_p0) (S_root_carlson_p0 : TS_root_carlson_p0) (S_root_above : TS_root_above) (y_2 : Fl) (t93_2 : Int) (s_11 : List Fl) (s_12 s_13 : Int) (s_14 : List Fl) (t8_4 t8_5 : Int) (t9_6 t9_7 t9_8 o_2 : Fl) (l_4 l_5 : Int) (w_2 : List Fl) (step_6 step_7 step_8 : Fl) (next_4 next_5 : Int) (b9_2 b10_2 : List Fl) (e0 : Bool -> List Fl -> List Fl -> Bool) : (Int × Bool × List Fl × List Fl) -> ((Int × Bool × List Fl × List Fl) -> Bool) -> Bool := fun v_ K => match v_ with
  | (t94_2, k__2, b11_1, b12) => (cond (decide (t94_2 < t93_2)) ((inR t94_2 (List.length w_2)) && ((decide ((Int.toNat t94_2) < (List.length w_2))) && ((inR 0 (List.length b10_2)) && ((decide (0 < (List.length b10_2))) && (S_root_steps_see_p0 (fdiv (List.getD w_2 (Int.toNat t94_2) none) (List.getD b10_2 0 none)) k__2 (fun c15 => ((decide ((List.length (b11_1 ++ [(fdiv (List.getD w_2 (Int.toNat t94_2) none) (List.getD b10_2 0 none))])) * 8 <= 140737488355328)) && ((inR t94_2 (List.length s_11)) && (S_root_steps_see_p0 (fmul (fdiv (List.getD w_2 (Int.toNat t94_2) none) (List.getD b10_2 0 none)) y_2) c15 (fun c16 => (S_root_steps_see_p0 (fadd (List.getD s_11 (Int.toNat t94_2) none) (fmul (fdiv (List.getD w_2 (Int.toNat t94_2) none) (List.getD b10_2 0 none)) y_2)) c16 (fun c17 => ((decide ((List.length (b12 ++ [(fadd (List.getD s_11 (Int.toNat t94_2) none) (fmul (fdiv (List.getD w_2 (Int.toNat t94_2) none) (List.getD b10_2 0 none)) y_2))])) * 8 <= 140737488355328)) && ((fits .i64 (t94_2 + 1)) && (K ((t94_2 + 1), c17, (b11_1 ++ [(fdiv (List.getD w_2 (Int.toNat t94_2) none) (List.getD b10_2 0 none))]), (b12 ++ [(fadd (List.getD s_11 (Int.toNat t94_2) none) (fmul (fdiv (List.getD w_2 (Int.toNat t94_2) none) (List.getD b10_2 0 none)) y_2))]))))))))))))))))) (e0 k__2 b11_1 b12))

def st_root_Update_thaw_0_1 (N : Nat) (S_root_Check : TS_root_Check) (S_root_checkRow : TS_root_checkRow) (S_root_finite : TS_root_finite) (S_root_foresee_p0 : TS_root_foresee_p0) (S_root_steps_see_p0 : TS_root_steps_see_p0) (S_root_carlson_p0 : TS_root_carlson_p0) (S_root_above : TS_root_above) (y_3 : Fl) (t93_3 : Int) (s_15 : List Fl) (s_16 s_17 : Int) (s_18 : List Fl) (t8_6 t8_7 : Int) (t9_9 t9_10 t9_11 o_3 : Fl) (l_6 l_7 : Int) (w_3 : List Fl) (step_9 step_10 step_11 : Fl) (next_6 next_7 : Int) (b9_3 b10_3 b11_2 : List Fl) (e0 : Bool -> List Fl -> List Fl -> Bool) : (Int × Bool × List Fl × List Fl) -> ((Int × Bool × List Fl × List Fl) -> Bool) -> Bool := fun v_ K => match v_ with
  | (t94_3, k__4, b12_1, b13) => (cond (decide (t94_3 < t93_3)) ((inR t94_3 (List.length w_3)) && ((decide ((Int.toNat t94_3) < (List.length w_3))) && ((inR 0 (List.length b10_3)) && ((decide (0 < (List.length b10_3))) && (S_root_steps_see_p0 (fdiv (List.getD w_3 (Int.toNat t94_3) none) (List.getD b10_3 0 none)) k__4 (fun c18 => ((decide ((List.length (b12_1 ++ [(fdiv (List.getD w_3 (Int.toNat t94_3) none) (List.getD b10_3 0 none))])) * 8 <= 140737488355328)) && ((inR t94_3 (List.length s_15)) && (S_root_steps_see_p0 (fmul (fdiv (List.getD w_3 (Int.toNat t94_3) none) (List.getD b10_3 0 none)) y_3) c18 (fun c19 => (S_root_steps_see_p0 (fadd (List.getD s_15 (Int.toNat t94_3) none) (fmul (fdiv (List.getD w_3 (Int.toNat t94_3) none) (List.getD b10_3 0 none)) y_3)) c19 (fun c20 => ((decide ((List.length (b13 ++ [(fadd (List.getD s_15 (Int.toNat t94_3) none) (fmul (fdiv (List.getD w_3 (Int.toNat t94_3) none) (List.getD b10_3 0 none)) y_3))])) * 8 <= 140737488355328)) && ((fits .i64 (t94_3 + 1)) && (K ((t94_3 + 1), c20, (b12_1 ++ [(fdiv (List.getD w_3 (Int.toNat t94_3) none) (List.getD b10_3 0 none))]), (b13 ++ [(fadd (List.getD s_15 (Int.toNat t94_3) none) (fmul (fdiv (List.getD w_3 (Int.toNat t94_3) none) (List.getD b10_3 0 none)) y_3))]))))))))))))))))) (e0 k__4 b12_1 b13))

def J_root_Update_thaw_1 (N : Nat) (S_root_Check : TS_root_Check) (S_root_checkRow : TS_root_checkRow) (S_root_finite : TS_root_finite) (S_root_foresee_p0 : TS_root_foresee_p0) (S_root_steps_see_p0 : TS_root_steps_see_p0) (S_root_carlson_p0 : TS_root_carlson_p0) (S_root_above : TS_root_above) (s_0 : List Fl) (s_1 s_2 : Int) (s_3 h : List Fl) (r z : Fl) (k__7 : Bool) (l_10 l_11 : Int) (step_15 step_16 step_17 : Fl) (next_10 next_11 : Int) (b6_2 b7_3 b8_1 : List Fl) (k0 : Int -> Int -> Fl -> Fl -> Fl -> Int -> Bool) (k1 : Int -> Int -> Fl -> Fl -> Fl -> Int -> List Fl -> List Fl -> Bool) (k2 : Int -> Int -> Fl -> Fl -> Fl -> Int -> List Fl -> List Fl -> List Fl -> Bool) : Bool :=
  (cond k__7 (k0 0 0 (some 0) (some 0) (some 0) 5) (S_root_above l_10 l_11 b6_2 (fun c22 => (cond (!c22) (k0 0 0 (some 0) (some 0) (some 0) 93) (k2 next_10 next_11 step_15 step_16 step_17 0 b8_1 b6_2 b7_3)))))

def J_root_Update_thaw_0 (N : Nat) (S_root_Check : TS_root_Check) (S_root_checkRow : TS_root_checkRow) (S_root_finite : TS_root_finite) (S_root_foresee_p0 : TS_root_foresee_p0) (S_root_steps_see_p0 : TS_root_steps_see_p0) (S_root_carlson_p0 : TS_root_carlson_p0) (S_root_above : TS_root_above) (s_0 : List Fl) (s_1 s_2 : Int) (s_3 h : List Fl) (r z : Fl) (k__6 : Bool) (l_8 l_9 : Int) (step_12 step_13 step_14 : Fl) (next_8 next_9 : Int) (b6_1 b7_2 : List Fl) (k0 : Int -> Int -> Fl -> Fl -> Fl -> Int -> Bool) (k1 : Int -> Int -> Fl -> Fl -> Fl -> Int -> List Fl -> List Fl -> Bool) (k2 : Int -> Int -> Fl -> Fl -> Fl -> Int -> List Fl -> List Fl -> List Fl -> Bool) : Bool :=
  (cond k__6 (k0 0 0 (some 0) (some 0) (some 0) 5) (S_root_above l_8 l_9 [] (fun c21 => (cond (!c21) (k0 0 0 (some 0) (some 0) (some 0) 93) (k1 next_8 next_9 step_12 step_13 step_14 0 b7_2 b6_1)))))

def G_root_Update_thaw (N : Nat) (S_root_Check : TS_root_Check) (S_root_checkRow : TS_root_checkRow) (S_root_finite : TS_root_finite) (S_root_foresee_p0 : TS_root_foresee_p0) (S_root_steps_see_p0 : TS_root_steps_see_p0) (S_root_carlson_p0 : TS_root_carlson_p0) (S_root_above : TS_root_above) (s_0 : List Fl) (s_1 s_2 : Int) (s_3 h : List Fl) (r z : Fl) (k0 : Int -> Int -> Fl -> Fl -> Fl -> Int -> Bool) (k1 : Int -> Int -> Fl -> Fl -> Fl -> Int -> List Fl -> List Fl -> Bool) (k2 : Int -> Int -> Fl -> Fl -> Fl -> Int -> List Fl -> List Fl -> List Fl -> Bool) : Bool :=
  (S_root_Check s_0 s_1 s_2 s_3 (fun nr => (cond (nr != 0) (k0 0 0 (some 0) (some 0) (some 0) nr) (S_root_checkRow (((List.length s_0) : Nat) : Int) h r (fun nr_1 => (cond (nr_1 != 0) (k0 0 0 (some 0) (some 0) (some 0) nr_1) (S_root_finite z (fun cr => (cond (!cr) (k0 0 0 (some 0) (some 0) (some 0) 4) (S_root_foresee_p0 s_0 s_1 s_2 s_3 h r false (fun xr cr_1 xsr xsr_1 => (cond cr_1 (k0 0 0 (some 0) (some 0) (some 0) 5) (S_root_steps_see_p0 (fsub z xr) cr_1 (fun cr_2 => (S_root_carlson_p0 s_0 s_1 s_2 s_3 xr xsr xsr_1 cr_2 (fun nr_2 nr_3 cr_3 xsr_2 => ((inR 0 (List.length xsr_1)) && ((decide (0 < (List.length xsr_1))) && (S_root_steps_see_p0 (fmul (fsub z xr) (fsub z xr)) cr_3 (fun cr_5 => ((inR 0 (List.length xsr_1)) && ((decide (0 < (List.length xsr_1))) && (S_root_steps_see_p0 (fdiv (fmul (fsub z xr) (fsub z xr)) (List.getD xsr_1 0 none)) cr_5 (fun cr_6 => (iterG N (st_root_Update_thaw_0 N S_root_Check S_root_checkRow S_root_finite S_root_foresee_p0 S_root_steps_see_p0 S_root_carlson_p0 S_root_above (fsub z xr) (((List.length s_0) : Nat) : Int) s_0 s_1 s_2 s_3 0 0 (some 0) (some 0) (some 0) xr nr_2 nr_3 xsr_2 (fsub z xr) (List.getD xsr_1 0 none) (fdiv (fmul (fsub z xr) (fsub z xr)) (List.getD xsr_1 0 none)) nr_2 nr_3 xsr xsr_1 (fun k__3 b6 b7 => (J_root_Update_thaw_0 N S_root_Check S_root_checkRow S_root_finite S_root_foresee_p0 S_root_steps_see_p0 S_root_carlson_p0 S_root_above s_0 s_1 s_2 s_3 h r z k__3 nr_2 nr_3 (fsub z xr) (List.getD xsr_1 0 none) (fdiv (fmul (fsub z xr) (fsub z xr)) (List.getD xsr_1 0 none)) nr_2 nr_3 b6 b7 k0 k1 k2))) (0, cr_6, [], []))))))))))) (fun nr_4 n5 cr_4 xsr_3 y4 => ((inR 0 (List.length xsr_1)) && ((decide (0 < (List.length xsr_1))) && (S_root_steps_see_p0 (fmul (fsub z xr) (fsub z xr)) cr_4 (fun c7 => ((inR 0 (List.length xsr_1)) && ((decide (0 < (List.length xsr_1))) && (S_root_steps_see_p0 (fdiv (fmul (fsub z xr) (fsub z xr)) (List.getD xsr_1 0 none)) c7 (fun c8 => (iterG N (st_root_Update_thaw_0_1 N S_root_Check S_root_checkRow S_root_finite S_root_foresee_p0 S_root_steps_see_p0 S_root_carlson_p0 S_root_above (fsub z xr) (((List.length s_0) : Nat) : Int) s_0 s_1 s_2 s_3 0 0 (some 0) (some 0) (some 0) xr nr_4 n5 y4 (fsub z xr) (List.getD xsr_1 0 none) (fdiv (fmul (fsub z xr) (fsub z xr)) (List.getD xsr_1 0 none)) nr_4 n5 xsr xsr_1 xsr_3 (fun k__5 b7_1 b8 => (J_root_Update_thaw_1 N S_root_Check S_root_checkRow S_root_finite S_root_foresee_p0 S_root_steps_see_p0 S_root_carlson_p0 S_root_above s_0 s_1 s_2 s_3 h r z k__5 nr_4 n5 (fsub z xr) (List.getD xsr_1 0 none) (fdiv (fmul (fsub z xr) (fsub z xr)) (List.getD xsr_1 0 none)) nr_4 n5 xsr_3 b7_1 b8 k0 k1 k2))) (0, c8, [], []))))))))))))))))))))))))))

def s_root_Update_thaw (N : Nat) : TS_root_Update_thaw := G_root_Update_thaw N (s_root_Check N) (s_root_checkRow N) (s_root_finite N) (s_root_foresee_p0 N) (s_root_steps_see_p0 N) (s_root_carlson_p0 N) (s_root_above N)

abbrev TS_chol_at : Type := Int -> Int -> List Fl -> Int -> Int -> (Fl -> Bool) -> Bool

def G_chol_at (N : Nat) (m_0 m_1 : Int) (m_2 : List Fl) (i j : Int) (k0 : Fl -> Bool) : Bool :=
  ((fits .i64 (i * m_1)) && ((fits .i64 ((i * m_1) + j)) && ((inR ((i * m_1) + j) (List.length m_2)) && (k0 (List.getD m_2 (Int.toNat ((i * m_1) + j)) none)))))

def s_chol_at (N : Nat) : TS_chol_at := G_chol_at N

abbrev TS_chol_triangle : Type := Int -> Int -> List Fl -> (Int -> Bool) -> Bool

def st_chol_triangle_0 (N : Nat) (Sq0 : TSq0) (S_chol_at : TS_chol_at) (Sq12 : TSq12) (t16 l l_3 : Int) (l_4 : List Fl) (e0 : Int -> Bool) (e1 : Bool) : (Int) -> ((Int) -> Bool) -> Bool := fun v_ K => match v_ with
  | t17 => (cond (decide (t17 < t16)) (S_chol_at l l_3 l_4 t17 t17 (fun xr => (cond (!(fgt xr (some 0))) (e0 93) ((fits .i64 (t17 + 1)) && (K (t17 + 1)))))) e1)

def G_chol_triangle (N : Nat) (Sq0 : TSq0) (S_chol_at : TS_chol_at) (Sq12 : TSq12) (l_0 l_1 : Int) (l_2 : List Fl) (k0 : Int -> Bool) : Bool :=
  (Sq0 l_0 l_1 l_2 (fun nr => (cond (nr != 0) (k0 nr) (cond (l_0 != l_1) (k0 3) (iterG N (st_chol_triangle_0 N Sq0 S_chol_at Sq12 l_0 l_0 l_1 l_2 (fun t2 => (k0 t2)) (Sq12 l_0 l_1 l_2 (fun cr => (cond (!cr) (k0 93) (k0 0))))) 0)))))

def s_chol_triangle (N : Nat) : TS_chol_triangle := G_chol_triangle N (sq0 N) (s_chol_at N) (sq12 N)

abbrev TS_chol_fits : Type := Int -> List Fl -> (Int -> Bool) -> Bool

def G_chol_fits (N : Nat) (Sq2 : TSq2) (rows : Int) (b : List Fl) (k0 : Int -> Bool) : Bool :=
  (cond ((((List.length b) : Nat) : Int) != rows) (k0 3) (Sq2 b (fun cr => (cond (!cr) (k0 4) (k0 0)))))

def s_chol_fits (N : Nat) : TS_chol_fits := G_chol_fits N (sq2 N)

abbrev TS_chol_steps_of_p0 : Type := Fl -> Bool -> (Bool -> Bool) -> Bool

def G_chol_steps_of_p0 (N : Nat) (Sq2 : TSq2) (x : Fl) (b : Bool) (k0 : Bool -> Bool) : Bool :=
  (Sq2 [x] (fun cr => (cond (!cr) (k0 true) (k0 b))))

def s_chol_steps_of_p0 (N : Nat) : TS_chol_steps_of_p0 := G_chol_steps_of_p0 N (sq2 N)

abbrev TS_chol_steps_times_p0 : Type := Fl -> Fl -> Bool -> (Fl -> Bool -> Bool) -> Bool

def G_chol_steps_times_p0 (N : Nat) (S_chol_steps_of_p0 : TS_chol_steps_of_p0) (a b : Fl) (b_1 : Bool) (k0 : Fl -> Bool -> Bool) : Bool :=
  (S_chol_steps_of_p0 (fmul a b) b_1 (fun cr => (k0 (fmul a b) cr)))

def s_chol_steps_times_p0 (N : Nat) : TS_chol_steps_times_p0 := G_chol_steps_times_p0 N (s_chol_steps_of_p0 N)

abbrev TS_chol_steps_less_p0 : Type := Fl -> Fl -> Bool -> (Fl -> Bool -> Bool) -> Bool

def G_chol_steps_less_p0 (N : Nat) (S_chol_steps_of_p0 : TS_chol_steps_of_p0) (t p : Fl) (b : Bool) (k0 : Fl -> Bool -> Bool) : Bool :=
  (S_chol_steps_of_p0 (fsub t p) b (fun cr => (k0 (fsub t p) cr)))

def s_chol_steps_less_p0 (N : Nat) : TS_chol_steps_less_p0 := G_chol_steps_less_p0 N (s_chol_steps_of_p0 N)

abbrev TS_chol_steps_down_p0 : Type := Int -> Int -> List Fl -> List Fl -> Bool -> (Bool -> List Fl -> Bool) -> Bool

def st_chol_steps_down_p0_2 (N : Nat) (S_chol_at : TS_chol_at) (S_chol_steps_times_p0 : TS_chol_steps_times_p0) (S_chol_steps_less_p0 : TS_chol_steps_less_p0) (S_chol_steps_of_p0 : TS_chol_steps_of_p0) (b_3 : List Fl) (i t15_1 t16_1 t23 l_5 l_6 : Int) (l_7 x_1 : List Fl) (e0 : Fl -> Bool -> Bool) : (Fl × Int × Bool) -> ((Fl × Int × Bool) -> Bool) -> Bool := fun v_ K => match v_ with
  | (t, t24, s_1) => (cond (decide (t24 < t23)) (S_chol_at l_5 l_6 l_7 i t24 (fun xr => ((inR t24 (List.length x_1)) && ((decide ((Int.toNat t24) < (List.length x_1))) && (S_chol_steps_times_p0 xr (List.getD x_1 (Int.toNat t24) none) s_1 (fun xr_1 cr => (S_chol_steps_less_p0 t xr_1 cr (fun xr_2 cr_1 => ((fits .i64 (t24 + 1)) && (K (xr_2, (t24 + 1), cr_1))))))))))) (e0 t s_1))

def st_chol_steps_down_p0_0 (N : Nat) (S_chol_at : TS_chol_at) (S_chol_steps_times_p0 : TS_chol_steps_times_p0) (S_chol_steps_less_p0 : TS_chol_steps_less_p0) (S_chol_steps_of_p0 : TS_chol_steps_of_p0) (b_2 : List Fl) (t15 l l_3 : Int) (l_4 : List Fl) (e0 : Bool -> List Fl -> Bool) : (Int × Bool × List Fl) -> ((Int × Bool × List Fl) -> Bool) -> Bool := fun v_ K => match v_ with
  | (t16, s, x) => (cond (decide (t16 < t15)) ((inR t16 (List.length b_2)) && (iterG N (st_chol_steps_down_p0_2 N S_chol_at S_chol_steps_times_p0 S_chol_steps_less_p0 S_chol_steps_of_p0 b_2 t16 t15 t16 t16 l l_3 l_4 x (fun t_1 s_2 => (S_chol_at l l_3 l_4 t16 t16 (fun xr_3 => (S_chol_steps_of_p0 (fdiv t_1 xr_3) s_2 (fun cr_2 => ((inR t16 (List.length x)) && ((decide ((Int.toNat t16) < (List.length x))) && ((fits .i64 (t16 + 1)) && (K ((t16 + 1), cr_2, (List.set x (Int.toNat t16) (fdiv t_1 xr_3))))))))))))) ((List.getD b_2 (Int.toNat t16) none), 0, s))) (e0 s x))

def G_chol_steps_down_p0 (N : Nat) (S_chol_at : TS_chol_at) (S_chol_steps_times_p0 : TS_chol_steps_times_p0) (S_chol_steps_less_p0 : TS_chol_steps_less_p0) (S_chol_steps_of_p0 : TS_chol_steps_of_p0) (l_0 l_1 : Int) (l_2 b : List Fl) (b_1 : Bool) (k0 : Bool -> List Fl -> Bool) : Bool :=
  ((mkOk 8 (((List.length b) : Nat) : Int) (((List.length b) : Nat) : Int)) && (iterG N (st_chol_steps_down_p0_0 N S_chol_at S_chol_steps_times_p0 S_chol_steps_less_p0 S_chol_steps_of_p0 b (((List.length b) : Nat) : Int) l_0 l_1 l_2 (fun b0 x_2 => (k0 b0 x_2))) (0, b_1, (List.replicate (Int.toNat (((List.length b) : Nat) : Int)) (some 0)))))

def s_chol_steps_down_p0 (N : Nat) : TS_chol_steps_down_p0 := G_chol_steps_down_p0 N (s_chol_at N) (s_chol_steps_times_p0 N) (s_chol_steps_less_p0 N) (s_chol_steps_of_p0 N)

abbrev TS_chol_by_f : Type := Int -> Int -> List Fl -> List Fl -> (Int -> Bool) -> (Int -> List Fl -> Bool) -> Bool

def G_chol_by_f (N : Nat) (S_chol_triangle : TS_chol_triangle) (S_chol_fits : TS_chol_fits) (S_chol_steps_down_p0 : TS_chol_steps_down_p0) (l_0 l_1 : Int) (l_2 b : List Fl) (k0 : Int -> Bool) (k1 : Int -> List Fl -> Bool) : Bool :=
  (S_chol_triangle l_0 l_1 l_2 (fun nr => (cond (nr != 0) (k0 nr) (S_chol_fits l_0 b (fun nr_1 => (cond (nr_1 != 0) (k0 nr_1) (S_chol_steps_down_p0 l_0 l_1 l_2 b false (fun cr xsr => (cond cr (k0 5) (k1 0 xsr))))))))))

def s_chol_by_f (N : Nat) : TS_chol_by_f := G_chol_by_f N (s_chol_triangle N) (s_chol_fits N) (s_chol_steps_down_p0 N)

abbrev TS_chol_Lower : Type := Int -> Int -> List Fl -> List Fl -> (Int -> Bool) -> (Int -> List Fl -> Bool) -> Bool

def G_chol_Lower (N : Nat) (S_chol_by_f : TS_chol_by_f) (l_0 l_1 : Int) (l_2 b : List Fl) (k0 : Int -> Bool) (k1 : Int -> List Fl -> Bool) : Bool :=
  (S_chol_by_f l_0 l_1 l_2 b (fun nr => (k0 nr)) (fun nr_1 xsr => (k1 nr_1 xsr)))

def s_chol_Lower (N : Nat) : TS_chol_Lower := G_chol_Lower N (s_chol_by_f N)

abbrev TS_root_Distance : Type := List Fl -> Int -> Int -> List Fl -> List Fl -> (Fl -> Int -> Bool) -> Bool

def st_root_Distance_1 (N : Nat) (S_root_Check : TS_root_Check) (Sq2 : TSq2) (S_root_steps_see_p0 : TS_root_steps_see_p0) (S_chol_Lower : TS_chol_Lower) (S_root_steps_dot_p0 : TS_root_steps_dot_p0) (x_2 : List Fl) (t32_1 : Int) (s_7 : List Fl) (s_8 s_9 : Int) (s_10 : List Fl) (e0 : Bool -> List Fl -> Bool) : (Int × Bool × List Fl) -> ((Int × Bool × List Fl) -> Bool) -> Bool := fun v_ K => match v_ with
  | (t33_1, k__1, d) => (cond (decide (t33_1 < t32_1)) ((inR t33_1 (List.length x_2)) && ((inR t33_1 (List.length s_7)) && (S_root_steps_see_p0 (fsub (List.getD x_2 (Int.toNat t33_1) none) (List.getD s_7 (Int.toNat t33_1) none)) k__1 (fun cr_2 => ((decide ((List.length (d ++ [(fsub (List.getD x_2 (Int.toNat t33_1) none) (List.getD s_7 (Int.toNat t33_1) none))])) * 8 <= 140737488355328)) && ((fits .i64 (t33_1 + 1)) && (K ((t33_1 + 1), cr_2, (d ++ [(fsub (List.getD x_2 (Int.toNat t33_1) none) (List.getD s_7 (Int.toNat t33_1) none))]))))))))) (e0 k__1 d))

def J_root_Distance_1 (N : Nat) (S_root_Check : TS_root_Check) (Sq2 : TSq2) (S_root_steps_see_p0 : TS_root_steps_see_p0) (S_chol_Lower : TS_chol_Lower) (S_root_steps_dot_p0 : TS_root_steps_dot_p0) (s_0 : List Fl) (s_1 s_2 : Int) (s_3 x : List Fl) (k__4 : Bool) (b : List Fl) (k0 : Fl -> Int -> Bool) : Bool :=
  (S_root_steps_dot_p0 b b k__4 (fun xr_1 cr_4 => (cond cr_4 (k0 (some 0) 5) (k0 xr_1 0))))

def J_root_Distance_0 (N : Nat) (S_root_Check : TS_root_Check) (Sq2 : TSq2) (S_root_steps_see_p0 : TS_root_steps_see_p0) (S_chol_Lower : TS_chol_Lower) (S_root_steps_dot_p0 : TS_root_steps_dot_p0) (s_0 : List Fl) (s_1 s_2 : Int) (s_3 x : List Fl) (k__3 : Bool) (k0 : Fl -> Int -> Bool) : Bool :=
  (S_root_steps_dot_p0 [] [] k__3 (fun xr cr_3 => (cond cr_3 (k0 (some 0) 5) (k0 xr 0))))

def G_root_Distance (N : Nat) (S_root_Check : TS_root_Check) (Sq2 : TSq2) (S_root_steps_see_p0 : TS_root_steps_see_p0) (S_chol_Lower : TS_chol_Lower) (S_root_steps_dot_p0 : TS_root_steps_dot_p0) (s_0 : List Fl) (s_1 s_2 : Int) (s_3 x : List Fl) (k0 : Fl -> Int -> Bool) : Bool :=
  (S_root_Check s_0 s_1 s_2 s_3 (fun nr => (cond (nr != 0) (k0 (some 0) nr) (cond ((((List.length x) : Nat) : Int) != (((List.length s_0) : Nat) : Int)) (k0 (some 0) 3) (Sq2 x (fun cr => (cond (!cr) (k0 (some 0) 4) (iterG N (st_root_Distance_1 N S_root_Check Sq2 S_root_steps_see_p0 S_chol_Lower S_root_steps_dot_p0 x (((List.length x) : Nat) : Int) s_0 s_1 s_2 s_3 (fun k__2 d_1 => (cond k__2 (k0 (some 0) 5) (S_chol_Lower s_1 s_2 s_3 d_1 (fun nr_1 => (cond (nr_1 != 0) (k0 (some 0) nr_1) (J_root_Distance_0 N S_root_Check Sq2 S_root_steps_see_p0 S_chol_Lower S_root_steps_dot_p0 s_0 s_1 s_2 s_3 x k__2 k0))) (fun nr_2 xsr => (cond (nr_2 != 0) (k0 (some 0) nr_2) (J_root_Distance_1 N S_root_Check Sq2 S_root_steps_see_p0 S_chol_Lower S_root_steps_dot_p0 s_0 s_1 s_2 s_3 x k__2 xsr k0))))))) (0, false, [])))))))))

def s_root_Distance (N : Nat) : TS_root_Distance := G_root_Distance N (s_root_Check N) (sq2 N) (s_root_steps_see_p0 N) (s_chol_Lower N) (s_root_steps_dot_p0 N)

abbrev TSq36 : Type := (Bool -> Bool) -> Bool

def Gq36 (N : Nat) (S_root_Update_thaw : TS_root_Update_thaw) (S_root_Distance : TS_root_Distance) (S_root_Check : TS_root_Check) (k0 : Bool -> Bool) : Bool :=
  (S_root_Update_thaw [(some 0)] 1 1 [(some 4611686018427387904)] [(some 4607182418800017408)] (some 4607182418800017408) (some 4617315517961601024) (fun nr nr_1 xr xr_1 xr_2 nr_2 => (S_root_Distance [(some 0)] 1 1 [(some 4611686018427387904)] [(some 4616189618054758400)] (fun xr_9 n9 => (cond ((nr_2 == 0) == true) (k0 false) (k0 false))))) (fun nr_3 nr_4 xr_3 xr_4 xr_5 n5 xsr xsr_1 => (S_root_Distance [(some 0)] 1 1 [(some 4611686018427387904)] [(some 4616189618054758400)] (fun xr_10 n10 => (cond ((n5 == 0) == true) (cond (((((List.length xsr) : Nat) : Int) == 1) == true) ((inR 0 (List.length xsr)) && ((decide (0 < (List.length xsr))) && (cond ((feq (List.getD xsr 0 none) (some 4616189618054758400)) == true) (cond ((feq xr_4 (some 4617315517961601024)) == true) (cond ((feq xr_3 (some 4617315517961601024)) == true) (cond ((n10 == 0) == true) (cond ((feq xr_10 (some 4616189618054758400)) == true) (S_root_Check [(some 0)] 1 1 [(some 4611686018427387904)] (fun n12 => (k0 (n12 == 0)))) (k0 false)) (k0 false)) (k0 false)) (k0 false)) (k0 false)))) (k0 false)) (k0 false))))) (fun n6 n7 xr_6 xr_7 xr_8 n8 xsr_2 xsr_3 y4 => (S_root_Distance [(some 0)] 1 1 [(some 4611686018427387904)] [(some 4616189618054758400)] (fun x11 n11 => (cond ((n8 == 0) == true) (cond (((((List.length xsr_2) : Nat) : Int) == 1) == true) ((inR 0 (List.length xsr_2)) && ((decide (0 < (List.length xsr_2))) && (cond ((feq (List.getD xsr_2 0 none) (some 4616189618054758400)) == true) (cond ((feq xr_7 (some 4617315517961601024)) == true) (cond ((feq xr_6 (some 4617315517961601024)) == true) (cond ((n11 == 0) == true) (cond ((feq x11 (some 4616189618054758400)) == true) (S_root_Check [(some 0)] 1 1 [(some 4611686018427387904)] (fun n13 => (k0 (n13 == 0)))) (k0 false)) (k0 false)) (k0 false)) (k0 false)) (k0 false)))) (k0 false)) (k0 false))))))

def sq36 (N : Nat) : TSq36 := Gq36 N (s_root_Update_thaw N) (s_root_Distance N) (s_root_Check N)

abbrev TSq41 : Type := List Int -> Int -> Int -> List Int -> List RY0 -> Int -> Int -> (Bool -> Bool) -> Bool

def Jq67 (N : Nat) (Sq44 : TSq44) (S_zk_of : TS_zk_of) (S_root_Rows : TS_root_Rows) (Sq34 : TSq34) (Sq47 : TSq47) (Sq13 : TSq13) (Sq36 : TSq36) (x : List Int) (m_0 m_1 : Int) (m_2 : List Int) (w : List RY0) (n cut : Int) (r z : List Fl) (h : Int) (h_1 : List Fl) (k0 : Bool -> Bool) : Bool :=
  (S_zk_of x m_0 m_1 m_2 (fun xsr_3 y4 => (S_root_Rows xsr_3 m_0 m_1 y4 h n h_1 r z (fun nr_1 nr_2 nr_3 nr_4 => (S_zk_of x m_0 m_1 m_2 (fun y7 y8 => (Sq34 y7 m_0 m_1 y8 h n h_1 r z (fun n9 n10 n11 n12 => (Sq47 [] nr_1 nr_2 [] nr_4 [] n9 n10 [] n12 (fun cr => (cond (cr == true) (Sq13 [] [] (fun cr_1 => (cond (cr_1 == true) (cond ((nr_3 == n11) == true) (Sq36 (fun cr_2 => (k0 cr_2))) (k0 false)) (k0 false)))) (k0 false))))) (fun (y9 : List Fl) (n13 n14 : Int) (y10 : List Fl) (n15 n16 : Int) (lr_1 : List RY1) => (Sq47 [] nr_1 nr_2 [] nr_4 y9 n13 n14 y10 n16 (fun cr_3 => (cond (cr_3 == true) (Sq13 [] lr_1 (fun cr_4 => (cond (cr_4 == true) (cond ((nr_3 == n15) == true) (Sq36 (fun cr_5 => (k0 cr_5))) (k0 false)) (k0 false)))) (k0 false))))))))) (fun (y5 : List Fl) (n5 n6 : Int) (y6 : List Fl) (n7 n8 : Int) (lr : List RY1) => (S_zk_of x m_0 m_1 m_2 (fun y11 y12 => (Sq34 y11 m_0 m_1 y12 h n h_1 r z (fun n17 n18 n19 n20 => (Sq47 y5 n5 n6 y6 n8 [] n17 n18 [] n20 (fun cr_6 => (cond (cr_6 == true) (Sq13 lr [] (fun c7 => (cond (c7 == true) (cond ((n7 == n19) == true) (Sq36 (fun c8 => (k0 c8))) (k0 false)) (k0 false)))) (k0 false))))) (fun (y13 : List Fl) (n21 n22 : Int) (y14 : List Fl) (n23 n24 : Int) (lr_2 : List RY1) => (Sq47 y5 n5 n6 y6 n8 y13 n21 n22 y14 n24 (fun c9 => (cond (c9 == true) (Sq13 lr lr_2 (fun c10 => (cond (c10 == true) (cond ((n7 == n23) == true) (Sq36 (fun c11 => (k0 c11))) (k0 false)) (k0 false)))) (k0 false))))))))))))

def Gq41 (N : Nat) (Sq44 : TSq44) (S_zk_of : TS_zk_of) (S_root_Rows : TS_root_Rows) (Sq34 : TSq34) (Sq47 : TSq47) (Sq13 : TSq13) (Sq36 : TSq36) (x : List Int) (m_0 m_1 : Int) (m_2 : List Int) (w : List RY0) (n cut : Int) (k0 : Bool -> Bool) : Bool :=
  (Sq44 w n (fun nr xsr xsr_1 xsr_2 => (cond ((decide (cut > 0)) == true) (cond (decide (cut <= (((List.length xsr_2) : Nat) : Int))) ((fits .i64 ((((List.length xsr_2) : Nat) : Int) - cut)) && ((decide (0 <= ((((List.length xsr_2) : Nat) : Int) - cut) /\ ((((List.length xsr_2) : Nat) : Int) - cut) <= (((List.length xsr_2) : Nat) : Int))) && (Jq67 N Sq44 S_zk_of S_root_Rows Sq34 Sq47 Sq13 Sq36 x m_0 m_1 m_2 w n cut xsr_1 (List.drop 0 (List.take (Int.toNat ((((List.length xsr_2) : Nat) : Int) - cut)) xsr_2)) nr xsr k0))) (Jq67 N Sq44 S_zk_of S_root_Rows Sq34 Sq47 Sq13 Sq36 x m_0 m_1 m_2 w n cut xsr_1 xsr_2 nr xsr k0)) (Jq67 N Sq44 S_zk_of S_root_Rows Sq34 Sq47 Sq13 Sq36 x m_0 m_1 m_2 w n cut xsr_1 xsr_2 nr xsr k0))))

def sq41 (N : Nat) : TSq41 := Gq41 N (sq44 N) (s_zk_of N) (s_root_Rows N) (sq34 N) (sq47 N) (sq13 N) (sq36 N)

end Go.Proofs.Ytgngdkjghdohiaa
end
section
namespace Go.Proofs.Ytgngdkjghdohiaa
open Go Go.Mach Go.Proofs
set_option linter.unusedVariables false
set_option maxRecDepth 50000

noncomputable abbrev Pg : Program := Try.prog
def sqs : Nat → List Sh → List Sh
  | 0, t => t
  | n + 1, t => .any :: sqs n t
def isref : Nat -> Bool := fun g => g == 48 || g == 47 || g == 49 || g == 72

def shFq54 : FnSh := ⟨[.fb], []⟩
def spq54 (Sq54 : TSq54) : List Atom -> (V -> List Blk -> Bool) -> Bool := fun a_ c_ => match a_ with
  | [.nat a0] => Sq54 a0 (fun r0 => c_ (.int .u64 r0) [])
  | _ => false
abbrev Fq54 (Sq54 : TSq54) : Fs := mkFs shFq54 (spq54 Sq54)

def shF_an_of : FnSh := ⟨[.litI .i64 0], []⟩
def sp_an_of (S_an_of : TS_an_of) : List Atom -> (V -> List Blk -> Bool) -> Bool := fun a_ c_ => match a_ with
  | [] => S_an_of (fun r0 r1 r2 => c_ (.agg [.int .u64 r0, .int .i64 r1, .int .i64 r2]) [])
  | _ => false
abbrev F_an_of (S_an_of : TS_an_of) : Fs := mkFs shF_an_of (sp_an_of S_an_of)

def shFq56 : FnSh := ⟨[.agg [.int .u64, .int .i64, .int .i64]], []⟩
def spq56 (Sq56 : TSq56) : List Atom -> (V -> List Blk -> Bool) -> Bool := fun a_ c_ => match a_ with
  | [.int f_0, .int f_1, .int f_2] => Sq56 f_0 f_1 f_2 (fun r0 => c_ (.int .u64 r0) [])
  | _ => false
abbrev Fq56 (Sq56 : TSq56) : Fs := mkFs shFq56 (spq56 Sq56)

def shFq29 : FnSh := ⟨[.agg [.int .u64, .int .i64, .int .i64]], []⟩
def spq29 (Sq29 : TSq29) : List Atom -> (V -> List Blk -> Bool) -> Bool := fun a_ c_ => match a_ with
  | [.int f_0, .int f_1, .int f_2] => Sq29 f_0 f_1 f_2 (fun r0 => c_ (.int .u64 r0) [])
  | _ => false
abbrev Fq29 (Sq29 : TSq29) : Fs := mkFs shFq29 (spq29 Sq29)

def shFq28 : FnSh := ⟨[.int .u64, .agg [.int .u64, .int .i64, .int .i64]], []⟩
def spq28 (Sq28 : TSq28) : List Atom -> (V -> List Blk -> Bool) -> Bool := fun a_ c_ => match a_ with
  | [.int b, .int f_0, .int f_1, .int f_2] => Sq28 b f_0 f_1 f_2 (fun r0 => c_ (.bool r0) [])
  | _ => false
abbrev Fq28 (Sq28 : TSq28) : Fs := mkFs shFq28 (spq28 Sq28)

def shFq35 : FnSh := ⟨[.agg [.int .u64, .int .i64, .int .i64]], []⟩
def spq35 (Sq35 : TSq35) : List Atom -> (V -> List Blk -> Bool) -> Bool := fun a_ c_ => match a_ with
  | [.int f_0, .int f_1, .int f_2] => Sq35 f_0 f_1 f_2 (fun r0 => c_ (.int .u64 r0) [])
  | _ => false
abbrev Fq35 (Sq35 : TSq35) : Fs := mkFs shFq35 (spq35 Sq35)

def shFq63 : FnSh := ⟨[.agg [.int .u64, .int .i64, .int .i64]], []⟩
def spq63 (Sq63 : TSq63) : List Atom -> (V -> List Blk -> Bool) -> Bool := fun a_ c_ => match a_ with
  | [.int f_0, .int f_1, .int f_2] => Sq63 f_0 f_1 f_2 (fun r0 => c_ (.int .u64 r0) [])
  | _ => false
abbrev Fq63 (Sq63 : TSq63) : Fs := mkFs shFq63 (spq63 Sq63)

def shFq11 : FnSh := ⟨[.int .u64, .agg [.int .u64, .int .i64, .int .i64]], []⟩
def spq11 (Sq11 : TSq11) : List Atom -> (V -> List Blk -> Bool) -> Bool := fun a_ c_ => match a_ with
  | [.int b, .int f_0, .int f_1, .int f_2] => Sq11 b f_0 f_1 f_2 (fun r0 => c_ (.int .u64 r0) [])
  | _ => false
abbrev Fq11 (Sq11 : TSq11) : Fs := mkFs shFq11 (spq11 Sq11)

def shFq18 : FnSh := ⟨[.int .u64, .agg [.int .u64, .int .i64, .int .i64]], []⟩
def spq18 (Sq18 : TSq18) : List Atom -> (V -> List Blk -> Bool) -> Bool := fun a_ c_ => match a_ with
  | [.int b, .int f_0, .int f_1, .int f_2] => Sq18 b f_0 f_1 f_2 (fun r0 r1 r2 => c_ (.tup [.bool r0, .int .i64 r1, .int .u64 r2]) [])
  | _ => false
abbrev Fq18 (Sq18 : TSq18) : Fs := mkFs shFq18 (spq18 Sq18)

def shFq17 : FnSh := ⟨[.int .u64, .agg [.int .u64, .int .i64, .int .i64]], []⟩
def spq17 (Sq17 : TSq17) : List Atom -> (V -> List Blk -> Bool) -> Bool := fun a_ c_ => match a_ with
  | [.int b, .int f_0, .int f_1, .int f_2] => Sq17 b f_0 f_1 f_2 (fun r0 => c_ (.int .i64 r0) [])
  | _ => false
abbrev Fq17 (Sq17 : TSq17) : Fs := mkFs shFq17 (spq17 Sq17)

def shFq59 : FnSh := ⟨[.fb], []⟩
def spq59 (Sq59 : TSq59) : List Atom -> (V -> List Blk -> Bool) -> Bool := fun a_ c_ => match a_ with
  | [.nat x] => Sq59 x (fun r0 => c_ (.int .i64 r0) [])
  | _ => false
abbrev Fq59 (Sq59 : TSq59) : Fs := mkFs shFq59 (spq59 Sq59)

def shFq60 : FnSh := ⟨[.fb, .fb], []⟩
def spq60 (Sq60 : TSq60) : List Atom -> (V -> List Blk -> Bool) -> Bool := fun a_ c_ => match a_ with
  | [.nat a, .nat b] => Sq60 a b (fun r0 => c_ (.bool r0) [])
  | _ => false
abbrev Fq60 (Sq60 : TSq60) : Fs := mkFs shFq60 (spq60 Sq60)

def shFq62 : FnSh := ⟨[.int .u64], []⟩
def spq62 (Sq62 : TSq62) : List Atom -> (V -> List Blk -> Bool) -> Bool := fun a_ c_ => match a_ with
  | [.int a0] => Sq62 a0 (fun r0 => c_ (.flt r0) [])
  | _ => false
abbrev Fq62 (Sq62 : TSq62) : Fs := mkFs shFq62 (spq62 Sq62)

def shFq57 : FnSh := ⟨[.roi .u64], []⟩
def spq57 (Sq57 : TSq57) : List Atom -> (V -> List Blk -> Bool) -> Bool := fun a_ c_ => match a_ with
  | [.ints l] => Sq57 l (fun r0 => c_ (.rof r0) [])
  | _ => false
abbrev Fq57 (Sq57 : TSq57) : Fs := mkFs shFq57 (spq57 Sq57)

def shF_zk_l : FnSh := ⟨[.roi .u64], []⟩
def sp_zk_l (S_zk_l : TS_zk_l) : List Atom -> (V -> List Blk -> Bool) -> Bool := fun a_ c_ => match a_ with
  | [.ints b] => S_zk_l b (fun r0 => c_ (.rof r0) [])
  | _ => false
abbrev F_zk_l (S_zk_l : TS_zk_l) : Fs := mkFs shF_zk_l (sp_zk_l S_zk_l)

def shF_zk_f : FnSh := ⟨[.int .u64], []⟩
def sp_zk_f (S_zk_f : TS_zk_f) : List Atom -> (V -> List Blk -> Bool) -> Bool := fun a_ c_ => match a_ with
  | [.int b] => S_zk_f b (fun r0 => c_ (.flt r0) [])
  | _ => false
abbrev F_zk_f (S_zk_f : TS_zk_f) : Fs := mkFs shF_zk_f (sp_zk_f S_zk_f)

def shFq44 : FnSh := ⟨[.rl RT0, .int .i64], []⟩
def spq44 (Sq44 : TSq44) : List Atom -> (V -> List Blk -> Bool) -> Bool := fun a_ c_ => match a_ with
  | [.recs t0_ w, .int n] => RT.cast RT0 t0_ w (fun w => Sq44 w n (fun r0 r2 r3 r4 => c_ (.tup [.agg [.int .i64 r0, .int .i64 n, .rof r2], .rof r3, .rof r4]) [])) false
  | _ => false
abbrev Fq44 (Sq44 : TSq44) : Fs := mkFs shFq44 (spq44 Sq44)

def shFq65 : FnSh := ⟨[.agg [.int .i64, .int .i64, .roi .u64]], []⟩
def spq65 (Sq65 : TSq65) : List Atom -> (V -> List Blk -> Bool) -> Bool := fun a_ c_ => match a_ with
  | [.int m_0, .int m_1, .ints m_2] => Sq65 m_0 m_1 m_2 (fun r2 => c_ (.agg [.int .i64 m_0, .int .i64 m_1, .rof r2]) [])
  | _ => false
abbrev Fq65 (Sq65 : TSq65) : Fs := mkFs shFq65 (spq65 Sq65)

def shF_zk_of : FnSh := ⟨[.roi .u64, .agg [.int .i64, .int .i64, .roi .u64]], []⟩
def sp_zk_of (S_zk_of : TS_zk_of) : List Atom -> (V -> List Blk -> Bool) -> Bool := fun a_ c_ => match a_ with
  | [.ints x, .int m_0, .int m_1, .ints m_2] => S_zk_of x m_0 m_1 m_2 (fun r0 r3 => c_ (.agg [.rof r0, .int .i64 m_0, .int .i64 m_1, .rof r3]) [])
  | _ => false
abbrev F_zk_of (S_zk_of : TS_zk_of) : Fs := mkFs shF_zk_of (sp_zk_of S_zk_of)

def shFq24 : FnSh := ⟨[.int .i64], []⟩
def spq24 (Sq24 : TSq24) : List Atom -> (V -> List Blk -> Bool) -> Bool := fun a_ c_ => match a_ with
  | [.int n] => Sq24 n (fun r0 => c_ (.bool r0) [])
  | _ => false
abbrev Fq24 (Sq24 : TSq24) : Fs := mkFs shFq24 (spq24 Sq24)

def shFq48 : FnSh := ⟨[.flt], []⟩
def spq48 (Sq48 : TSq48) : List Atom -> (V -> List Blk -> Bool) -> Bool := fun a_ c_ => match a_ with
  | [.fl x] => Sq48 x (fun r0 => c_ (.int .i64 r0) [])
  | _ => false
abbrev Fq48 (Sq48 : TSq48) : Fs := mkFs shFq48 (spq48 Sq48)

def shFq2 : FnSh := ⟨[.rof], []⟩
def spq2 (Sq2 : TSq2) : List Atom -> (V -> List Blk -> Bool) -> Bool := fun a_ c_ => match a_ with
  | [.fls l] => Sq2 l (fun r0 => c_ (.bool r0) [])
  | _ => false
abbrev Fq2 (Sq2 : TSq2) : Fs := mkFs shFq2 (spq2 Sq2)

def shFq0 : FnSh := ⟨[.agg [.int .i64, .int .i64, .rof]], []⟩
def spq0 (Sq0 : TSq0) : List Atom -> (V -> List Blk -> Bool) -> Bool := fun a_ c_ => match a_ with
  | [.int m_0, .int m_1, .fls m_2] => Sq0 m_0 m_1 m_2 (fun r0 => c_ (.int .i64 r0) [])
  | _ => false
abbrev Fq0 (Sq0 : TSq0) : Fs := mkFs shFq0 (spq0 Sq0)

def shFq27 : FnSh := ⟨[.agg [.int .i64, .int .i64, .rof], .int .i64, .int .i64], []⟩
def spq27 (Sq27 : TSq27) : List Atom -> (V -> List Blk -> Bool) -> Bool := fun a_ c_ => match a_ with
  | [.int m_0, .int m_1, .fls m_2, .int i, .int j] => Sq27 m_0 m_1 m_2 i j (fun r0 => c_ (.flt r0) [])
  | _ => false
abbrev Fq27 (Sq27 : TSq27) : Fs := mkFs shFq27 (spq27 Sq27)

def shFq46 : FnSh := ⟨[.flt, .flt], []⟩
def spq46 (Sq46 : TSq46) : List Atom -> (V -> List Blk -> Bool) -> Bool := fun a_ c_ => match a_ with
  | [.fl a, .fl b] => Sq46 a b (fun r0 => c_ (.bool r0) [])
  | _ => false
abbrev Fq46 (Sq46 : TSq46) : Fs := mkFs shFq46 (spq46 Sq46)

def shFq12 : FnSh := ⟨[.agg [.int .i64, .int .i64, .rof]], []⟩
def spq12 (Sq12 : TSq12) : List Atom -> (V -> List Blk -> Bool) -> Bool := fun a_ c_ => match a_ with
  | [.int m_0, .int m_1, .fls m_2] => Sq12 m_0 m_1 m_2 (fun r0 => c_ (.bool r0) [])
  | _ => false
abbrev Fq12 (Sq12 : TSq12) : Fs := mkFs shFq12 (spq12 Sq12)

def shF_root_above : FnSh := ⟨[.agg [.int .i64, .int .i64, .rof]], []⟩
def sp_root_above (S_root_above : TS_root_above) : List Atom -> (V -> List Blk -> Bool) -> Bool := fun a_ c_ => match a_ with
  | [.int l_0, .int l_1, .fls l_2] => S_root_above l_0 l_1 l_2 (fun r0 => c_ (.bool r0) [])
  | _ => false
abbrev F_root_above (S_root_above : TS_root_above) : Fs := mkFs shF_root_above (sp_root_above S_root_above)

def shF_root_Check : FnSh := ⟨[.agg [.rof, .int .i64, .int .i64, .rof]], []⟩
def sp_root_Check (S_root_Check : TS_root_Check) : List Atom -> (V -> List Blk -> Bool) -> Bool := fun a_ c_ => match a_ with
  | [.fls s_0, .int s_1, .int s_2, .fls s_3] => S_root_Check s_0 s_1 s_2 s_3 (fun r0 => c_ (.int .i64 r0) [])
  | _ => false
abbrev F_root_Check (S_root_Check : TS_root_Check) : Fs := mkFs shF_root_Check (sp_root_Check S_root_Check)

def shF_root_finite : FnSh := ⟨[.flt], []⟩
def sp_root_finite (S_root_finite : TS_root_finite) : List Atom -> (V -> List Blk -> Bool) -> Bool := fun a_ c_ => match a_ with
  | [.fl x] => S_root_finite x (fun r0 => c_ (.bool r0) [])
  | _ => false
abbrev F_root_finite (S_root_finite : TS_root_finite) : Fs := mkFs shF_root_finite (sp_root_finite S_root_finite)

def shF_root_checkRow : FnSh := ⟨[.int .i64, .rof, .flt], []⟩
def sp_root_checkRow (S_root_checkRow : TS_root_checkRow) : List Atom -> (V -> List Blk -> Bool) -> Bool := fun a_ c_ => match a_ with
  | [.int n, .fls h, .fl r] => S_root_checkRow n h r (fun r0 => c_ (.int .i64 r0) [])
  | _ => false
abbrev F_root_checkRow (S_root_checkRow : TS_root_checkRow) : Fs := mkFs shF_root_checkRow (sp_root_checkRow S_root_checkRow)

def shF_root_steps_see_p0 : FnSh := ⟨[.ptr 0 0, .flt], [some (74, 1, .cells [.bool])]⟩
def sp_root_steps_see_p0 (S_root_steps_see_p0 : TS_root_steps_see_p0) : List Atom -> (V -> List Blk -> Bool) -> Bool := fun a_ c_ => match a_ with
  | [.fl x, .bool b] => S_root_steps_see_p0 x b (fun r1 => c_ (.flt x) [⟨74, 1, .cells [.bool r1]⟩])
  | _ => false
abbrev F_root_steps_see_p0 (S_root_steps_see_p0 : TS_root_steps_see_p0) : Fs := mkFs shF_root_steps_see_p0 (sp_root_steps_see_p0 S_root_steps_see_p0)

def shF_root_steps_dot_p0 : FnSh := ⟨[.ptr 0 0, .rof, .rof], [some (74, 1, .cells [.bool])]⟩
def sp_root_steps_dot_p0 (S_root_steps_dot_p0 : TS_root_steps_dot_p0) : List Atom -> (V -> List Blk -> Bool) -> Bool := fun a_ c_ => match a_ with
  | [.fls a, .fls b, .bool b_1] => S_root_steps_dot_p0 a b b_1 (fun r0 r1 => c_ (.flt r0) [⟨74, 1, .cells [.bool r1]⟩])
  | _ => false
abbrev F_root_steps_dot_p0 (S_root_steps_dot_p0 : TS_root_steps_dot_p0) : Fs := mkFs shF_root_steps_dot_p0 (sp_root_steps_dot_p0 S_root_steps_dot_p0)

def shF_root_foresee_p0 : FnSh := ⟨[.agg [.rof, .int .i64, .int .i64, .rof], .rof, .flt, .ptr 0 0], [some (74, 1, .cells [.bool])]⟩
def sp_root_foresee_p0 (S_root_foresee_p0 : TS_root_foresee_p0) : List Atom -> (V -> List Blk -> Bool) -> Bool := fun a_ c_ => match a_ with
  | [.fls s_0, .int s_1, .int s_2, .fls s_3, .fls h, .fl r, .bool b] => S_root_foresee_p0 s_0 s_1 s_2 s_3 h r b (fun r0 r1 r2 r3 => c_ (.agg [.flt r0, .slw 1, .slw 2]) [⟨74, 1, .cells [.bool r1]⟩, ⟨48, 1, .flts r2⟩, ⟨48, 1, .flts r3⟩])
  | _ => false
abbrev F_root_foresee_p0 (S_root_foresee_p0 : TS_root_foresee_p0) : Fs := mkFs shF_root_foresee_p0 (sp_root_foresee_p0 S_root_foresee_p0)

def shFq9 : FnSh := ⟨[.int .i64, .int .i64], []⟩
def spq9 (Sq9 : TSq9) : List Atom -> (V -> List Blk -> Bool) -> Bool := fun a_ c_ => match a_ with
  | [.int i, .int j] => Sq9 i j (fun r0 => c_ (.flt r0) [])
  | _ => false
abbrev Fq9 (Sq9 : TSq9) : Fs := mkFs shFq9 (spq9 Sq9)

def shFq25 : FnSh := ⟨[.int .i64, .int .i64, .fn 73 []], []⟩
def spq25 (Sq25 : TSq25) : List Atom -> (V -> List Blk -> Bool) -> Bool := fun a_ c_ => match a_ with
  | [.int rows, .int cols] => Sq25 rows cols (fun r2 => c_ (.agg [.int .i64 rows, .int .i64 cols, .slw 0]) [⟨48, 1, .flts r2⟩])
  | _ => false
abbrev Fq25 (Sq25 : TSq25) : Fs := mkFs shFq25 (spq25 Sq25)

def shFq5 : FnSh := ⟨[.int .i64, .int .i64], []⟩
def spq5 (Sq5 : TSq5) : List Atom -> (V -> List Blk -> Bool) -> Bool := fun a_ c_ => match a_ with
  | [.int rows, .int cols] => Sq5 rows cols (fun r0 r1 r2 => c_ (.tup [.agg [.int .i64 r0, .int .i64 r1, .nil], .int .i64 r2]) []) (fun r2 r3 => c_ (.tup [.agg [.int .i64 rows, .int .i64 cols, .slw 0], .int .i64 r2]) [⟨48, 1, .flts r3⟩])
  | _ => false
abbrev Fq5 (Sq5 : TSq5) : Fs := mkFs shFq5 (spq5 Sq5)

def shFq70 : FnSh := ⟨[.flt], []⟩
def spq70 (Sq70 : TSq70) : List Atom -> (V -> List Blk -> Bool) -> Bool := fun a_ c_ => match a_ with
  | [.fl a0] => Sq70 a0 (fun r0 => c_ (.flt r0) [])
  | _ => false
abbrev Fq70 (Sq70 : TSq70) : Fs := mkFs shFq70 (spq70 Sq70)

def shFq20 : FnSh := ⟨[.flt], []⟩
def spq20 (Sq20 : TSq20) : List Atom -> (V -> List Blk -> Bool) -> Bool := fun a_ c_ => match a_ with
  | [.fl x] => Sq20 x (fun r0 => c_ (.flt r0) [])
  | _ => false
abbrev Fq20 (Sq20 : TSq20) : Fs := mkFs shFq20 (spq20 Sq20)

def shF_root_carlson_p0 : FnSh := ⟨[.agg [.rof, .int .i64, .int .i64, .rof], .agg [.flt, .rof, .rof], .ptr 0 0], [some (74, 1, .cells [.bool])]⟩
def sp_root_carlson_p0 (S_root_carlson_p0 : TS_root_carlson_p0) : List Atom -> (V -> List Blk -> Bool) -> Bool := fun a_ c_ => match a_ with
  | [.fls s_0, .int s_1, .int s_2, .fls s_3, .fl o_0, .fls o_1, .fls o_2, .bool b] => S_root_carlson_p0 s_0 s_1 s_2 s_3 o_0 o_1 o_2 b (fun r0 r1 r2 r3 => c_ (.tup [.agg [.int .i64 r0, .int .i64 r1, .nil], .slw 1]) [⟨74, 1, .cells [.bool r2]⟩, ⟨48, 1, .flts r3⟩]) (fun r0 r1 r2 r3 r4 => c_ (.tup [.agg [.int .i64 r0, .int .i64 r1, .slw 1], .slw 2]) [⟨74, 1, .cells [.bool r2]⟩, ⟨48, 1, .flts r3⟩, ⟨48, 1, .flts r4⟩])
  | _ => false
abbrev F_root_carlson_p0 (S_root_carlson_p0 : TS_root_carlson_p0) : Fs := mkFs shF_root_carlson_p0 (sp_root_carlson_p0 S_root_carlson_p0)

def shF_root_Update : FnSh := ⟨[.agg [.rof, .int .i64, .int .i64, .rof], .rof, .flt, .flt], []⟩
def sp_root_Update (S_root_Update : TS_root_Update) : List Atom -> (V -> List Blk -> Bool) -> Bool := fun a_ c_ => match a_ with
  | [.fls s_0, .int s_1, .int s_2, .fls s_3, .fls h, .fl r, .fl z] => S_root_Update s_0 s_1 s_2 s_3 h r z (fun r0 r1 r2 r3 r4 r5 r6 r7 r8 => c_ (.tup [.agg [.rof r0, .int .i64 r1, .int .i64 r2, .rof r3], .agg [.flt r4, .flt r5, .flt r6, .rof r7], .int .i64 r8]) [])
  | _ => false
abbrev F_root_Update (S_root_Update : TS_root_Update) : Fs := mkFs shF_root_Update (sp_root_Update S_root_Update)

def shF_root_Rows : FnSh := ⟨[.agg [.rof, .int .i64, .int .i64, .rof], .agg [.int .i64, .int .i64, .rof], .rof, .rof], []⟩
def sp_root_Rows (S_root_Rows : TS_root_Rows) : List Atom -> (V -> List Blk -> Bool) -> Bool := fun a_ c_ => match a_ with
  | [.fls s_0, .int s_1, .int s_2, .fls s_3, .int h_0, .int h_1, .fls h_2, .fls r, .fls z] => S_root_Rows s_0 s_1 s_2 s_3 h_0 h_1 h_2 r z (fun r0 r1 r2 r3 => c_ (.tup [.agg [.nil, .int .i64 r0, .int .i64 r1, .nil], .nil, .int .i64 r2, .int .i64 r3]) []) (fun r0 r1 r2 r3 r4 r5 r6 => c_ (.tup [.agg [.rof r0, .int .i64 r1, .int .i64 r2, .rof r3], .slw 0, .int .i64 r4, .int .i64 r5]) [⟨53, 4, .recs RT1 r6⟩])
  | _ => false
abbrev F_root_Rows (S_root_Rows : TS_root_Rows) : Fs := mkFs shF_root_Rows (sp_root_Rows S_root_Rows)

def shFq69 : FnSh := ⟨[.flt], []⟩
def spq69 (Sq69 : TSq69) : List Atom -> (V -> List Blk -> Bool) -> Bool := fun a_ c_ => match a_ with
  | [.fl a0] => Sq69 a0 (fun r0 => c_ (.int .u64 r0) [])
  | _ => false
abbrev Fq69 (Sq69 : TSq69) : Fs := mkFs shFq69 (spq69 Sq69)

def shFq42 : FnSh := ⟨[.flt], []⟩
def spq42 (Sq42 : TSq42) : List Atom -> (V -> List Blk -> Bool) -> Bool := fun a_ c_ => match a_ with
  | [.fl x] => Sq42 x (fun r0 => c_ (.int .u64 r0) [])
  | _ => false
abbrev Fq42 (Sq42 : TSq42) : Fs := mkFs shFq42 (spq42 Sq42)

def shFq51 : FnSh := ⟨[.flt], []⟩
def spq51 (Sq51 : TSq51) : List Atom -> (V -> List Blk -> Bool) -> Bool := fun a_ c_ => match a_ with
  | [.fl x] => Sq51 x (fun r0 r1 r2 => c_ (.tup [.bool r0, .int .i64 r1, .int .u64 r2]) [])
  | _ => false
abbrev Fq51 (Sq51 : TSq51) : Fs := mkFs shFq51 (spq51 Sq51)

def shFq33 : FnSh := ⟨[.int .i64, .int .u64, .int .i64], []⟩
def spq33 (Sq33 : TSq33) : List Atom -> (V -> List Blk -> Bool) -> Bool := fun a_ c_ => match a_ with
  | [.int exp, .int frac, .int most] => Sq33 exp frac most (fun r0 => c_ (.int .i64 r0) [])
  | _ => false
abbrev Fq33 (Sq33 : TSq33) : Fs := mkFs shFq33 (spq33 Sq33)

def shFq50 : FnSh := ⟨[.flt], []⟩
def spq50 (Sq50 : TSq50) : List Atom -> (V -> List Blk -> Bool) -> Bool := fun a_ c_ => match a_ with
  | [.fl x] => Sq50 x (fun r0 => c_ (.int .i64 r0) [])
  | _ => false
abbrev Fq50 (Sq50 : TSq50) : Fs := mkFs shFq50 (spq50 Sq50)

def shFq1 : FnSh := ⟨[.flt], []⟩
def spq1 (Sq1 : TSq1) : List Atom -> (V -> List Blk -> Bool) -> Bool := fun a_ c_ => match a_ with
  | [.fl x] => Sq1 x (fun r0 => c_ (.bool r0) [])
  | _ => false
abbrev Fq1 (Sq1 : TSq1) : Fs := mkFs shFq1 (spq1 Sq1)

def shFq4 : FnSh := ⟨[.rof], []⟩
def spq4 (Sq4 : TSq4) : List Atom -> (V -> List Blk -> Bool) -> Bool := fun a_ c_ => match a_ with
  | [.fls l] => Sq4 l (fun r0 => c_ (.bool r0) [])
  | _ => false
abbrev Fq4 (Sq4 : TSq4) : Fs := mkFs shFq4 (spq4 Sq4)

def shFq53 : FnSh := ⟨[.agg [.int .i64, .int .i64, .rof]], []⟩
def spq53 (Sq53 : TSq53) : List Atom -> (V -> List Blk -> Bool) -> Bool := fun a_ c_ => match a_ with
  | [.int m_0, .int m_1, .fls m_2] => Sq53 m_0 m_1 m_2 (fun r0 => c_ (.int .i64 r0) [])
  | _ => false
abbrev Fq53 (Sq53 : TSq53) : Fs := mkFs shFq53 (spq53 Sq53)

def shFq52 : FnSh := ⟨[.int .i64, .int .i64, .int .i64], []⟩
def spq52 (Sq52 : TSq52) : List Atom -> (V -> List Blk -> Bool) -> Bool := fun a_ c_ => match a_ with
  | [.int rows, .int cols, .int n] => Sq52 rows cols n (fun r0 => c_ (.int .i64 r0) [])
  | _ => false
abbrev Fq52 (Sq52 : TSq52) : Fs := mkFs shFq52 (spq52 Sq52)

def shFq26 : FnSh := ⟨[.agg [.int .i64, .int .i64, .rof]], []⟩
def spq26 (Sq26 : TSq26) : List Atom -> (V -> List Blk -> Bool) -> Bool := fun a_ c_ => match a_ with
  | [.int m_0, .int m_1, .fls m_2] => Sq26 m_0 m_1 m_2 (fun r0 => c_ (.int .i64 r0) [])
  | _ => false
abbrev Fq26 (Sq26 : TSq26) : Fs := mkFs shFq26 (spq26 Sq26)

def shFq55 : FnSh := ⟨[.agg [.int .i64, .int .i64, .rof], .int .i64, .int .i64], []⟩
def spq55 (Sq55 : TSq55) : List Atom -> (V -> List Blk -> Bool) -> Bool := fun a_ c_ => match a_ with
  | [.int m_0, .int m_1, .fls m_2, .int i, .int j] => Sq55 m_0 m_1 m_2 i j (fun r0 => c_ (.flt r0) [])
  | _ => false
abbrev Fq55 (Sq55 : TSq55) : Fs := mkFs shFq55 (spq55 Sq55)

def shFq15 : FnSh := ⟨[.flt, .flt], []⟩
def spq15 (Sq15 : TSq15) : List Atom -> (V -> List Blk -> Bool) -> Bool := fun a_ c_ => match a_ with
  | [.fl a, .fl b] => Sq15 a b (fun r0 => c_ (.bool r0) [])
  | _ => false
abbrev Fq15 (Sq15 : TSq15) : Fs := mkFs shFq15 (spq15 Sq15)

def shFq30 : FnSh := ⟨[.agg [.int .i64, .int .i64, .rof]], []⟩
def spq30 (Sq30 : TSq30) : List Atom -> (V -> List Blk -> Bool) -> Bool := fun a_ c_ => match a_ with
  | [.int m_0, .int m_1, .fls m_2] => Sq30 m_0 m_1 m_2 (fun r0 => c_ (.int .i64 r0) [])
  | _ => false
abbrev Fq30 (Sq30 : TSq30) : Fs := mkFs shFq30 (spq30 Sq30)

def shFq8 : FnSh := ⟨[.agg [.rof, .int .i64, .int .i64, .rof]], []⟩
def spq8 (Sq8 : TSq8) : List Atom -> (V -> List Blk -> Bool) -> Bool := fun a_ c_ => match a_ with
  | [.fls s_0, .int s_1, .int s_2, .fls s_3] => Sq8 s_0 s_1 s_2 s_3 (fun r0 => c_ (.int .i64 r0) [])
  | _ => false
abbrev Fq8 (Sq8 : TSq8) : Fs := mkFs shFq8 (spq8 Sq8)

def shFq58 : FnSh := ⟨[.agg [.int .i64, .int .i64, .rof]], []⟩
def spq58 (Sq58 : TSq58) : List Atom -> (V -> List Blk -> Bool) -> Bool := fun a_ c_ => match a_ with
  | [.int m_0, .int m_1, .fls m_2] => Sq58 m_0 m_1 m_2 (fun r0 => c_ (.int .i64 r0) [])
  | _ => false
abbrev Fq58 (Sq58 : TSq58) : Fs := mkFs shFq58 (spq58 Sq58)

def shFq39 : FnSh := ⟨[.int .i64, .agg [.int .i64, .int .i64, .rof], .rof, .rof], []⟩
def spq39 (Sq39 : TSq39) : List Atom -> (V -> List Blk -> Bool) -> Bool := fun a_ c_ => match a_ with
  | [.int n, .int h_0, .int h_1, .fls h_2, .fls r, .fls z] => Sq39 n h_0 h_1 h_2 r z (fun r0 => c_ (.int .i64 r0) [])
  | _ => false
abbrev Fq39 (Sq39 : TSq39) : Fs := mkFs shFq39 (spq39 Sq39)

def shFq7 : FnSh := ⟨[.roi .i64], []⟩
def spq7 (Sq7 : TSq7) : List Atom -> (V -> List Blk -> Bool) -> Bool := fun a_ c_ => match a_ with
  | [.ints l] => Sq7 l (fun r0 => c_ (.int .i64 r0) [])
  | _ => false
abbrev Fq7 (Sq7 : TSq7) : Fs := mkFs shFq7 (spq7 Sq7)

def shFq21 : FnSh := ⟨[.agg [.int .i64, .int .i64, .rof], .int .i64, .int .i64], []⟩
def spq21 (Sq21 : TSq21) : List Atom -> (V -> List Blk -> Bool) -> Bool := fun a_ c_ => match a_ with
  | [.int m_0, .int m_1, .fls m_2, .int i, .int j] => Sq21 m_0 m_1 m_2 i j (fun r0 => c_ (.flt r0) [])
  | _ => false
abbrev Fq21 (Sq21 : TSq21) : Fs := mkFs shFq21 (spq21 Sq21)

def shFq49 : FnSh := ⟨[.agg [.int .i64, .int .i64, .rof], .int .i64], []⟩
def spq49 (Sq49 : TSq49) : List Atom -> (V -> List Blk -> Bool) -> Bool := fun a_ c_ => match a_ with
  | [.int m_0, .int m_1, .fls m_2, .int i] => Sq49 m_0 m_1 m_2 i (fun r0 => c_ (.rof r0) [])
  | _ => false
abbrev Fq49 (Sq49 : TSq49) : Fs := mkFs shFq49 (spq49 Sq49)

def shFq32 : FnSh := ⟨[.int .i64, .rof, .flt], []⟩
def spq32 (Sq32 : TSq32) : List Atom -> (V -> List Blk -> Bool) -> Bool := fun a_ c_ => match a_ with
  | [.int n, .fls h, .fl r] => Sq32 n h r (fun r0 => c_ (.int .i64 r0) [])
  | _ => false
abbrev Fq32 (Sq32 : TSq32) : Fs := mkFs shFq32 (spq32 Sq32)

def shFq45 : FnSh := ⟨[.bool, .int .i64], []⟩
def spq45 (Sq45 : TSq45) : List Atom -> (V -> List Blk -> Bool) -> Bool := fun a_ c_ => match a_ with
  | [.bool is, .int e] => Sq45 is e (fun r0 => c_ (.int .i64 r0) [])
  | _ => false
abbrev Fq45 (Sq45 : TSq45) : Fs := mkFs shFq45 (spq45 Sq45)

def shFq10 : FnSh := ⟨[.ptr 0 0, .flt], [some (87, 1, .cells [.bool])]⟩
def spq10 (Sq10 : TSq10) : List Atom -> (V -> List Blk -> Bool) -> Bool := fun a_ c_ => match a_ with
  | [.fl x, .bool b] => Sq10 x b (fun r1 => c_ (.flt x) [⟨87, 1, .cells [.bool r1]⟩])
  | _ => false
abbrev Fq10 (Sq10 : TSq10) : Fs := mkFs shFq10 (spq10 Sq10)

def shFq22 : FnSh := ⟨[.ptr 0 0, .rof, .rof], [some (87, 1, .cells [.bool])]⟩
def spq22 (Sq22 : TSq22) : List Atom -> (V -> List Blk -> Bool) -> Bool := fun a_ c_ => match a_ with
  | [.fls a, .fls b, .bool b_1] => Sq22 a b b_1 (fun r0 r1 => c_ (.flt r0) [⟨87, 1, .cells [.bool r1]⟩])
  | _ => false
abbrev Fq22 (Sq22 : TSq22) : Fs := mkFs shFq22 (spq22 Sq22)

def shFq38 : FnSh := ⟨[.agg [.int .i64, .int .i64, .rof], .int .i64], []⟩
def spq38 (Sq38 : TSq38) : List Atom -> (V -> List Blk -> Bool) -> Bool := fun a_ c_ => match a_ with
  | [.int m_0, .int m_1, .fls m_2, .int j] => Sq38 m_0 m_1 m_2 j (fun r0 => c_ (.slw 0) [⟨48, 1, .flts r0⟩])
  | _ => false
abbrev Fq38 (Sq38 : TSq38) : Fs := mkFs shFq38 (spq38 Sq38)

def shFq6 : FnSh := ⟨[.agg [.rof, .int .i64, .int .i64, .rof], .rof, .flt, .ptr 0 0], [some (87, 1, .cells [.bool])]⟩
def spq6 (Sq6 : TSq6) : List Atom -> (V -> List Blk -> Bool) -> Bool := fun a_ c_ => match a_ with
  | [.fls s_0, .int s_1, .int s_2, .fls s_3, .fls h, .fl r, .bool b] => Sq6 s_0 s_1 s_2 s_3 h r b (fun r0 r1 r2 r3 => c_ (.tup [.flt r0, .slw 1, .slw 2]) [⟨87, 1, .cells [.bool r1]⟩, ⟨48, 1, .flts r2⟩, ⟨48, 1, .flts r3⟩])
  | _ => false
abbrev Fq6 (Sq6 : TSq6) : Fs := mkFs shFq6 (spq6 Sq6)

def shFq31 : FnSh := ⟨[.int .i64, .int .i64], []⟩
def spq31 (Sq31 : TSq31) : List Atom -> (V -> List Blk -> Bool) -> Bool := fun a_ c_ => match a_ with
  | [.int rows, .int cols] => Sq31 rows cols (fun r2 => c_ (.agg [.int .i64 rows, .int .i64 cols, .slw 0]) [⟨48, 1, .flts r2⟩])
  | _ => false
abbrev Fq31 (Sq31 : TSq31) : Fs := mkFs shFq31 (spq31 Sq31)

def shFq14 : FnSh := ⟨[.agg [.int .i64, .int .i64, .slw 0], .int .i64, .int .i64, .flt], [some (48, 1, .flts)]⟩
def spq14 (Sq14 : TSq14) : List Atom -> (V -> List Blk -> Bool) -> Bool := fun a_ c_ => match a_ with
  | [.int m_0, .int m_1, .int i, .int j, .fl x, .fls b] => Sq14 m_0 m_1 i j x b (fun r0 => c_ (.tup []) [⟨48, 1, .flts r0⟩])
  | _ => false
abbrev Fq14 (Sq14 : TSq14) : Fs := mkFs shFq14 (spq14 Sq14)

def shFq43 : FnSh := ⟨[.agg [.int .i64, .int .i64, .slw 0], .int .i64, .int .i64], [some (48, 1, .flts)]⟩
def spq43 (Sq43 : TSq43) : List Atom -> (V -> List Blk -> Bool) -> Bool := fun a_ c_ => match a_ with
  | [.int m_0, .int m_1, .int i, .int j, .fls b] => Sq43 m_0 m_1 i j b (fun r0 => c_ (.flt r0) [⟨48, 1, .flts b⟩])
  | _ => false
abbrev Fq43 (Sq43 : TSq43) : Fs := mkFs shFq43 (spq43 Sq43)

def shFq3 : FnSh := ⟨[.slw 0, .agg [.int .i64, .int .i64, .slw 1]], [some (48, 1, .flts), some (48, 1, .flts)]⟩
def spq3 (Sq3 : TSq3) : List Atom -> (V -> List Blk -> Bool) -> Bool := fun a_ c_ => match a_ with
  | [.int l_0, .int l_1, .fls b, .fls b_1] => Sq3 l_0 l_1 b b_1 (fun r0 r1 r2 => c_ (.tup [.agg [.nil, .int .i64 r0, .int .i64 r1, .nil], .int .i64 r2]) [⟨48, 1, .flts b⟩, ⟨48, 1, .flts b_1⟩]) (fun r2 => c_ (.tup [.agg [.slw 0, .int .i64 l_0, .int .i64 l_1, .slw 1], .int .i64 r2]) [⟨48, 1, .flts b⟩, ⟨48, 1, .flts b_1⟩])
  | _ => false
abbrev Fq3 (Sq3 : TSq3) : Fs := mkFs shFq3 (spq3 Sq3)

def shFq23 : FnSh := ⟨[.agg [.rof, .int .i64, .int .i64, .rof], .rof, .flt, .flt], []⟩
def spq23 (Sq23 : TSq23) : List Atom -> (V -> List Blk -> Bool) -> Bool := fun a_ c_ => match a_ with
  | [.fls s_0, .int s_1, .int s_2, .fls s_3, .fls h, .fl r, .fl z] => Sq23 s_0 s_1 s_2 s_3 h r z (fun r0 r1 r2 r3 r4 r5 r6 r7 r8 => c_ (.tup [.agg [.rof r0, .int .i64 r1, .int .i64 r2, .rof r3], .agg [.flt r4, .flt r5, .flt r6, .rof r7], .int .i64 r8]) [])
  | _ => false
abbrev Fq23 (Sq23 : TSq23) : Fs := mkFs shFq23 (spq23 Sq23)

def shFq34 : FnSh := ⟨[.agg [.rof, .int .i64, .int .i64, .rof], .agg [.int .i64, .int .i64, .rof], .rof, .rof], []⟩
def spq34 (Sq34 : TSq34) : List Atom -> (V -> List Blk -> Bool) -> Bool := fun a_ c_ => match a_ with
  | [.fls s_0, .int s_1, .int s_2, .fls s_3, .int h_0, .int h_1, .fls h_2, .fls r, .fls z] => Sq34 s_0 s_1 s_2 s_3 h_0 h_1 h_2 r z (fun r0 r1 r2 r3 => c_ (.tup [.agg [.nil, .int .i64 r0, .int .i64 r1, .nil], .nil, .int .i64 r2, .int .i64 r3]) []) (fun r0 r1 r2 r3 r4 r5 r6 => c_ (.tup [.agg [.rof r0, .int .i64 r1, .int .i64 r2, .rof r3], .slw 0, .int .i64 r4, .int .i64 r5]) [⟨53, 4, .recs RT1 r6⟩])
  | _ => false
abbrev Fq34 (Sq34 : TSq34) : Fs := mkFs shFq34 (spq34 Sq34)

def shFq16 : FnSh := ⟨[.rof, .rof], []⟩
def spq16 (Sq16 : TSq16) : List Atom -> (V -> List Blk -> Bool) -> Bool := fun a_ c_ => match a_ with
  | [.fls a, .fls b] => Sq16 a b (fun r0 => c_ (.bool r0) [])
  | _ => false
abbrev Fq16 (Sq16 : TSq16) : Fs := mkFs shFq16 (spq16 Sq16)

def shFq40 : FnSh := ⟨[.rof, .rof], []⟩
def spq40 (Sq40 : TSq40) : List Atom -> (V -> List Blk -> Bool) -> Bool := fun a_ c_ => match a_ with
  | [.fls a, .fls b] => Sq40 a b (fun r0 => c_ (.bool r0) [])
  | _ => false
abbrev Fq40 (Sq40 : TSq40) : Fs := mkFs shFq40 (spq40 Sq40)

def shFq37 : FnSh := ⟨[.agg [.int .i64, .int .i64, .rof], .agg [.int .i64, .int .i64, .rof]], []⟩
def spq37 (Sq37 : TSq37) : List Atom -> (V -> List Blk -> Bool) -> Bool := fun a_ c_ => match a_ with
  | [.int a_0, .int a_1, .fls a_2, .int b_0, .int b_1, .fls b_2] => Sq37 a_0 a_1 a_2 b_0 b_1 b_2 (fun r0 => c_ (.bool r0) [])
  | _ => false
abbrev Fq37 (Sq37 : TSq37) : Fs := mkFs shFq37 (spq37 Sq37)

def shFq61 : FnSh := ⟨[.agg [.rof, .int .i64, .int .i64, .rof], .agg [.rof, .int .i64, .int .i64, .rof]], []⟩
def spq61 (Sq61 : TSq61) : List Atom -> (V -> List Blk -> Bool) -> Bool := fun a_ c_ => match a_ with
  | [.fls a_0, .int a_1, .int a_2, .fls a_3, .fls b_0, .int b_1, .int b_2, .fls b_3] => Sq61 a_0 a_1 a_2 a_3 b_0 b_1 b_2 b_3 (fun r0 => c_ (.bool r0) [])
  | _ => false
abbrev Fq61 (Sq61 : TSq61) : Fs := mkFs shFq61 (spq61 Sq61)

def shFq47 : FnSh := ⟨[.agg [.rof, .int .i64, .int .i64, .rof], .int .i64, .agg [.rof, .int .i64, .int .i64, .rof], .int .i64], []⟩
def spq47 (Sq47 : TSq47) : List Atom -> (V -> List Blk -> Bool) -> Bool := fun a_ c_ => match a_ with
  | [.fls a_0, .int a_1, .int a_2, .fls a_3, .int e, .fls b_0, .int b_1, .int b_2, .fls b_3, .int n] => Sq47 a_0 a_1 a_2 a_3 e b_0 b_1 b_2 b_3 n (fun r0 => c_ (.bool r0) [])
  | _ => false
abbrev Fq47 (Sq47 : TSq47) : Fs := mkFs shFq47 (spq47 Sq47)

def shFq19 : FnSh := ⟨[.agg [.flt, .flt, .flt, .rof], .agg [.flt, .flt, .flt, .rof]], []⟩
def spq19 (Sq19 : TSq19) : List Atom -> (V -> List Blk -> Bool) -> Bool := fun a_ c_ => match a_ with
  | [.fl a_0, .fl a_1, .fl a_2, .fls a_3, .fl b_0, .fl b_1, .fl b_2, .fls b_3] => Sq19 a_0 a_1 a_2 a_3 b_0 b_1 b_2 b_3 (fun r0 => c_ (.bool r0) [])
  | _ => false
abbrev Fq19 (Sq19 : TSq19) : Fs := mkFs shFq19 (spq19 Sq19)

def shFq13 : FnSh := ⟨[.rl RT1, .rl RT1], []⟩
def spq13 (Sq13 : TSq13) : List Atom -> (V -> List Blk -> Bool) -> Bool := fun a_ c_ => match a_ with
  | [.recs t0_ a, .recs t1_ b] => RT.cast RT1 t0_ a (fun a => RT.cast RT1 t1_ b (fun b => Sq13 a b (fun r0 => c_ (.bool r0) [])) false) false
  | _ => false
abbrev Fq13 (Sq13 : TSq13) : Fs := mkFs shFq13 (spq13 Sq13)

def shF_root_Update_thaw : FnSh := ⟨[.agg [.rof, .int .i64, .int .i64, .rof], .rof, .flt, .flt], []⟩
def sp_root_Update_thaw (S_root_Update_thaw : TS_root_Update_thaw) : List Atom -> (V -> List Blk -> Bool) -> Bool := fun a_ c_ => match a_ with
  | [.fls s_0, .int s_1, .int s_2, .fls s_3, .fls h, .fl r, .fl z] => S_root_Update_thaw s_0 s_1 s_2 s_3 h r z (fun r0 r1 r2 r3 r4 r5 => c_ (.tup [.agg [.nil, .int .i64 r0, .int .i64 r1, .nil], .agg [.flt r2, .flt r3, .flt r4, .nil], .int .i64 r5]) []) (fun r0 r1 r2 r3 r4 r5 r6 r7 => c_ (.tup [.agg [.slw 0, .int .i64 r0, .int .i64 r1, .nil], .agg [.flt r2, .flt r3, .flt r4, .slw 1], .int .i64 r5]) [⟨48, 1, .flts r6⟩, ⟨48, 1, .flts r7⟩]) (fun r0 r1 r2 r3 r4 r5 r6 r7 r8 => c_ (.tup [.agg [.slw 0, .int .i64 r0, .int .i64 r1, .slw 1], .agg [.flt r2, .flt r3, .flt r4, .slw 2], .int .i64 r5]) [⟨48, 1, .flts r6⟩, ⟨48, 1, .flts r7⟩, ⟨48, 1, .flts r8⟩])
  | _ => false
abbrev F_root_Update_thaw (S_root_Update_thaw : TS_root_Update_thaw) : Fs := mkFs shF_root_Update_thaw (sp_root_Update_thaw S_root_Update_thaw)

def shF_chol_at : FnSh := ⟨[.agg [.int .i64, .int .i64, .rof], .int .i64, .int .i64], []⟩
def sp_chol_at (S_chol_at : TS_chol_at) : List Atom -> (V -> List Blk -> Bool) -> Bool := fun a_ c_ => match a_ with
  | [.int m_0, .int m_1, .fls m_2, .int i, .int j] => S_chol_at m_0 m_1 m_2 i j (fun r0 => c_ (.flt r0) [])
  | _ => false
abbrev F_chol_at (S_chol_at : TS_chol_at) : Fs := mkFs shF_chol_at (sp_chol_at S_chol_at)

def shF_chol_triangle : FnSh := ⟨[.agg [.int .i64, .int .i64, .rof]], []⟩
def sp_chol_triangle (S_chol_triangle : TS_chol_triangle) : List Atom -> (V -> List Blk -> Bool) -> Bool := fun a_ c_ => match a_ with
  | [.int l_0, .int l_1, .fls l_2] => S_chol_triangle l_0 l_1 l_2 (fun r0 => c_ (.int .i64 r0) [])
  | _ => false
abbrev F_chol_triangle (S_chol_triangle : TS_chol_triangle) : Fs := mkFs shF_chol_triangle (sp_chol_triangle S_chol_triangle)

def shF_chol_fits : FnSh := ⟨[.int .i64, .rof], []⟩
def sp_chol_fits (S_chol_fits : TS_chol_fits) : List Atom -> (V -> List Blk -> Bool) -> Bool := fun a_ c_ => match a_ with
  | [.int rows, .fls b] => S_chol_fits rows b (fun r0 => c_ (.int .i64 r0) [])
  | _ => false
abbrev F_chol_fits (S_chol_fits : TS_chol_fits) : Fs := mkFs shF_chol_fits (sp_chol_fits S_chol_fits)

def shF_chol_steps_of_p0 : FnSh := ⟨[.ptr 0 0, .flt], [some (125, 1, .cells [.bool])]⟩
def sp_chol_steps_of_p0 (S_chol_steps_of_p0 : TS_chol_steps_of_p0) : List Atom -> (V -> List Blk -> Bool) -> Bool := fun a_ c_ => match a_ with
  | [.fl x, .bool b] => S_chol_steps_of_p0 x b (fun r1 => c_ (.flt x) [⟨125, 1, .cells [.bool r1]⟩])
  | _ => false
abbrev F_chol_steps_of_p0 (S_chol_steps_of_p0 : TS_chol_steps_of_p0) : Fs := mkFs shF_chol_steps_of_p0 (sp_chol_steps_of_p0 S_chol_steps_of_p0)

def shF_chol_steps_times_p0 : FnSh := ⟨[.ptr 0 0, .flt, .flt], [some (125, 1, .cells [.bool])]⟩
def sp_chol_steps_times_p0 (S_chol_steps_times_p0 : TS_chol_steps_times_p0) : List Atom -> (V -> List Blk -> Bool) -> Bool := fun a_ c_ => match a_ with
  | [.fl a, .fl b, .bool b_1] => S_chol_steps_times_p0 a b b_1 (fun r0 r1 => c_ (.flt r0) [⟨125, 1, .cells [.bool r1]⟩])
  | _ => false
abbrev F_chol_steps_times_p0 (S_chol_steps_times_p0 : TS_chol_steps_times_p0) : Fs := mkFs shF_chol_steps_times_p0 (sp_chol_steps_times_p0 S_chol_steps_times_p0)

def shF_chol_steps_less_p0 : FnSh := ⟨[.ptr 0 0, .flt, .flt], [some (125, 1, .cells [.bool])]⟩
def sp_chol_steps_less_p0 (S_chol_steps_less_p0 : TS_chol_steps_less_p0) : List Atom -> (V -> List Blk -> Bool) -> Bool := fun a_ c_ => match a_ with
  | [.fl t, .fl p, .bool b] => S_chol_steps_less_p0 t p b (fun r0 r1 => c_ (.flt r0) [⟨125, 1, .cells [.bool r1]⟩])
  | _ => false
abbrev F_chol_steps_less_p0 (S_chol_steps_less_p0 : TS_chol_steps_less_p0) : Fs := mkFs shF_chol_steps_less_p0 (sp_chol_steps_less_p0 S_chol_steps_less_p0)

def shF_chol_steps_down_p0 : FnSh := ⟨[.ptr 0 0, .agg [.int .i64, .int .i64, .rof], .rof], [some (125, 1, .cells [.bool])]⟩
def sp_chol_steps_down_p0 (S_chol_steps_down_p0 : TS_chol_steps_down_p0) : List Atom -> (V -> List Blk -> Bool) -> Bool := fun a_ c_ => match a_ with
  | [.int l_0, .int l_1, .fls l_2, .fls b, .bool b_1] => S_chol_steps_down_p0 l_0 l_1 l_2 b b_1 (fun r0 r1 => c_ (.slw 1) [⟨125, 1, .cells [.bool r0]⟩, ⟨48, 1, .flts r1⟩])
  | _ => false
abbrev F_chol_steps_down_p0 (S_chol_steps_down_p0 : TS_chol_steps_down_p0) : Fs := mkFs shF_chol_steps_down_p0 (sp_chol_steps_down_p0 S_chol_steps_down_p0)

def shF_chol_by_f : FnSh := ⟨[.agg [.int .i64, .int .i64, .rof], .rof, .fn 67 []], []⟩
def sp_chol_by_f (S_chol_by_f : TS_chol_by_f) : List Atom -> (V -> List Blk -> Bool) -> Bool := fun a_ c_ => match a_ with
  | [.int l_0, .int l_1, .fls l_2, .fls b] => S_chol_by_f l_0 l_1 l_2 b (fun r0 => c_ (.tup [.nil, .int .i64 r0]) []) (fun r0 r1 => c_ (.tup [.slw 0, .int .i64 r0]) [⟨48, 1, .flts r1⟩])
  | _ => false
abbrev F_chol_by_f (S_chol_by_f : TS_chol_by_f) : Fs := mkFs shF_chol_by_f (sp_chol_by_f S_chol_by_f)

def shF_chol_Lower : FnSh := ⟨[.agg [.int .i64, .int .i64, .rof], .rof], []⟩
def sp_chol_Lower (S_chol_Lower : TS_chol_Lower) : List Atom -> (V -> List Blk -> Bool) -> Bool := fun a_ c_ => match a_ with
  | [.int l_0, .int l_1, .fls l_2, .fls b] => S_chol_Lower l_0 l_1 l_2 b (fun r0 => c_ (.tup [.nil, .int .i64 r0]) []) (fun r0 r1 => c_ (.tup [.slw 0, .int .i64 r0]) [⟨48, 1, .flts r1⟩])
  | _ => false
abbrev F_chol_Lower (S_chol_Lower : TS_chol_Lower) : Fs := mkFs shF_chol_Lower (sp_chol_Lower S_chol_Lower)

def shF_root_Distance : FnSh := ⟨[.agg [.rof, .int .i64, .int .i64, .rof], .rof], []⟩
def sp_root_Distance (S_root_Distance : TS_root_Distance) : List Atom -> (V -> List Blk -> Bool) -> Bool := fun a_ c_ => match a_ with
  | [.fls s_0, .int s_1, .int s_2, .fls s_3, .fls x] => S_root_Distance s_0 s_1 s_2 s_3 x (fun r0 r1 => c_ (.tup [.flt r0, .int .i64 r1]) [])
  | _ => false
abbrev F_root_Distance (S_root_Distance : TS_root_Distance) : Fs := mkFs shF_root_Distance (sp_root_Distance S_root_Distance)

def shFq36 : FnSh := ⟨[], []⟩
def spq36 (Sq36 : TSq36) : List Atom -> (V -> List Blk -> Bool) -> Bool := fun a_ c_ => match a_ with
  | [] => Sq36 (fun r0 => c_ (.bool r0) [])
  | _ => false
abbrev Fq36 (Sq36 : TSq36) : Fs := mkFs shFq36 (spq36 Sq36)

def shFq41 : FnSh := ⟨[.roi .u64, .agg [.int .i64, .int .i64, .roi .u64], .rl RT0, .int .i64, .int .i64], []⟩
end Go.Proofs.Ytgngdkjghdohiaa
end
