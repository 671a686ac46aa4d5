/-
  THE PROGRAM's FUNCTIONS, as their meanings (written by program).
  Conditions: none.
-/
import Derived.Test.YtjpaijnmiaoopaaGreatDoorMachT
import Derived.Test.YtjpaijnmiaoopaaGreatDoorProg
section
namespace Go.Proofs.YtjpaijnmiaoopaaGreatDoor
open Go Go.Mach
set_option linter.unusedVariables false
abbrev TSQ62 : Type := Nat -> (Int -> Bool) -> Bool
def sQ62 (N : Nat) : TSQ62 := fun n k => k n
abbrev TS_an_of : Type := (Int -> Int -> Int -> Bool) -> Bool
def G_an_of (N : Nat) (k0 : Int -> Int -> Int -> Bool) : Bool :=
 (k0 52 2047 1075)
def s_an_of (N : Nat) : TS_an_of := G_an_of N
abbrev TSQ75 : Type := Int -> Int -> Int -> (Int -> Bool) -> Bool
def GQ75 (N : Nat) (f_0 f_1 f_2 : Int) (k0 : Int -> Bool) : Bool :=
 ((fits .i64 (f_1 + 1)) && ((decide (0 <= f_0)) && (k0 (IntKind.wrap .u64 ((IntKind.wrap .u64 (f_1 + 1)) * 2 ^ (min (Int.toNat f_0) 64))))))
def sQ75 (N : Nat) : TSQ75 := GQ75 N
abbrev TSQ42 : Type := Int -> Int -> Int -> (Int -> Bool) -> Bool
def GQ42 (N : Nat) (f_0 f_1 f_2 : Int) (k0 : Int -> Bool) : Bool :=
 ((decide (0 <= f_0)) && (k0 (IntKind.wrap .u64 ((IntKind.wrap .u64 f_1) * 2 ^ (min (Int.toNat f_0) 64)))))
def sQ42 (N : Nat) : TSQ42 := GQ42 N
abbrev TSQ41 : Type := Int -> Int -> Int -> Int -> (Bool -> Bool) -> Bool
def GQ41 (N : Nat) (SQ75 : TSQ75) (SQ42 : TSQ42) (b f_0 f_1 f_2 : Int) (k0 : Bool -> Bool) : Bool :=
 (SQ75 f_0 f_1 f_2 (fun nr => (SQ42 f_0 f_1 f_2 (fun nr_1 => (k0 (decide ((bitsN .andNot .u64 b nr) > nr_1)))))))
def sQ41 (N : Nat) : TSQ41 := GQ41 N (sQ75 N) (sQ42 N)
abbrev TSQ61 : Type := Int -> Int -> Int -> (Int -> Bool) -> Bool
def GQ61 (N : Nat) (f_0 f_1 f_2 : Int) (k0 : Int -> Bool) : Bool :=
 ((decide (0 <= f_0)) && (k0 (IntKind.wrap .u64 ((1 : Int) * 2 ^ (min (Int.toNat f_0) 64)))))
def sQ61 (N : Nat) : TSQ61 := GQ61 N
abbrev TSQ88 : Type := Int -> Int -> Int -> (Int -> Bool) -> Bool
def GQ88 (N : Nat) (SQ42 : TSQ42) (SQ61 : TSQ61) (f_0 f_1 f_2 : Int) (k0 : Int -> Bool) : Bool :=
 (SQ42 f_0 f_1 f_2 (fun nr => (SQ61 f_0 f_1 f_2 (fun nr_1 => (k0 (bitsN .or .u64 (bitsN .or .u64 nr (Int.fdiv nr_1 (2 ^ 1))) (IntKind.wrap .u64 (Int.tdiv f_0 52))))))))
def sQ88 (N : Nat) : TSQ88 := GQ88 N (sQ42 N) (sQ61 N)
abbrev TSQ19 : Type := Int -> Int -> Int -> Int -> (Int -> Bool) -> Bool
def GQ19 (N : Nat) (SQ41 : TSQ41) (SQ88 : TSQ88) (b f_0 f_1 f_2 : Int) (k0 : Int -> Bool) : Bool :=
 (SQ41 b f_0 f_1 f_2 (fun cr => (cond cr (SQ88 f_0 f_1 f_2 (fun nr => (k0 nr))) (k0 b))))
def sQ19 (N : Nat) : TSQ19 := GQ19 N (sQ41 N) (sQ88 N)
abbrev TSQ32 : Type := Int -> Int -> Int -> Int -> (Bool -> Int -> Int -> Bool) -> Bool
def GQ32 (N : Nat) (SQ19 : TSQ19) (SQ75 : TSQ75) (SQ61 : TSQ61) (b f_0 f_1 f_2 : Int) (k0 : Bool -> Int -> Int -> Bool) : Bool :=
 (SQ19 b f_0 f_1 f_2 (fun nr => (SQ75 f_0 f_1 f_2 (fun nr_1 => ((decide (0 <= f_0)) && ((fits .i64 (bitsN .and .u64 (Int.fdiv nr (2 ^ (min (Int.toNat f_0) 64))) (IntKind.wrap .u64 f_1))) && (SQ61 f_0 f_1 f_2 (fun nr_2 => (k0 ((bitsN .and .u64 nr nr_1) != 0) (bitsN .and .u64 (Int.fdiv nr (2 ^ (min (Int.toNat f_0) 64))) (IntKind.wrap .u64 f_1)) (bitsN .and .u64 nr (IntKind.wrap .u64 (nr_2 - 1))))))))))))
def sQ32 (N : Nat) : TSQ32 := GQ32 N (sQ19 N) (sQ75 N) (sQ61 N)
abbrev TSQ31 : Type := Int -> Int -> Int -> Int -> (Int -> Bool) -> Bool
def GQ31 (N : Nat) (SQ32 : TSQ32) (b f_0 f_1 f_2 : Int) (k0 : Int -> Bool) : Bool :=
 (SQ32 b f_0 f_1 f_2 (fun cr nr nr_1 => (cond ((nr == f_1) == true) (cond (nr_1 != 0) (k0 1) (cond (nr == f_1) (k0 2) (cond ((nr == 0) == true) (cond (nr_1 == 0) (k0 3) (cond (nr == 0) (k0 4) (k0 5))) (cond (nr == 0) (k0 4) (k0 5))))) (cond (nr == f_1) (k0 2) (cond ((nr == 0) == true) (cond (nr_1 == 0) (k0 3) (cond (nr == 0) (k0 4) (k0 5))) (cond (nr == 0) (k0 4) (k0 5)))))))
def sQ31 (N : Nat) : TSQ31 := GQ31 N (sQ32 N)
abbrev TSQ78 : Type := Nat -> (Int -> Bool) -> Bool
def GQ78 (N : Nat) (SQ62 : TSQ62) (S_an_of : TS_an_of) (SQ31 : TSQ31) (x : Nat) (k0 : Int -> Bool) : Bool :=
 (SQ62 x (fun nr => (S_an_of (fun nr_1 nr_2 nr_3 => (SQ31 nr nr_1 nr_2 nr_3 (fun nr_4 => (k0 nr_4)))))))
def sQ78 (N : Nat) : TSQ78 := GQ78 N (sQ62 N) (s_an_of N) (sQ31 N)
abbrev TSQ37 : Type := Int -> (Fl -> Bool) -> Bool
def sQ37 (N : Nat) : TSQ37 := fun n k => k (canon n.toNat)
abbrev TSQ94 : Type := Nat -> (Fl -> Bool) -> Bool
def GQ94 (N : Nat) (SQ62 : TSQ62) (SQ37 : TSQ37) (x : Nat) (k0 : Fl -> Bool) : Bool :=
 (SQ62 x (fun nr => (SQ37 (bitsN .andNot .u64 nr 9223372036854775808) (fun xr => (k0 xr)))))
def sQ94 (N : Nat) : TSQ94 := GQ94 N (sQ62 N) (sQ37 N)
abbrev TSQ12 : Type := List Int -> (List Fl -> Bool) -> Bool
def st_z01_Of64_0 (N : Nat) (SQ37 : TSQ37) (t6_1 : List Int) (t7_1 : Int) (e0 : List Fl -> Bool) : (Int × List Fl) -> ((Int × List Fl) -> Bool) -> Bool := fun v_ K => match v_ with
 | (t8_1, x) => (cond (decide (t8_1 < t7_1)) ((inR t8_1 (List.length t6_1)) && (SQ37 (List.getD t6_1 (Int.toNat t8_1) 0) (fun xr_1 => ((decide ((List.length (x ++ [xr_1])) * 8 <= 140737488355328)) && ((fits .i64 (t8_1 + 1)) && (K ((t8_1 + 1), (x ++ [xr_1])))))))) (e0 x))
def GQ12 (N : Nat) (SQ37 : TSQ37) (l : List Int) (k0 : List Fl -> Bool) : Bool :=
 (iterG N (st_z01_Of64_0 N SQ37 l (((List.length l) : Nat) : Int) (fun x_1 => (k0 x_1))) (0, []))
def sQ12 (N : Nat) : TSQ12 := GQ12 N (sQ37 N)
abbrev TSQ6 : Type := List Int -> Int -> List Int -> (List Fl -> List Fl -> Bool) -> Bool
def GQ6 (N : Nat) (SQ12 : TSQ12) (z : List Int) (rows : Int) (r : List Int) (k0 : List Fl -> List Fl -> Bool) : Bool :=
 (SQ12 z (fun xsr => (SQ12 r (fun xsr_1 => (k0 xsr_1 xsr)))))
def sQ6 (N : Nat) : TSQ6 := GQ6 N (sQ12 N)
abbrev TSQ72 : Type := Int -> Int -> Int -> (Int -> Bool) -> Bool
def GQ72 (N : Nat) (rows cols n : Int) (k0 : Int -> Bool) : Bool :=
 (cond ((decide (rows < 0)) == false) (cond ((decide (rows > 12)) == false) (cond ((decide (cols < 0)) == false) (cond (decide (cols > 12)) (k0 1) ((fits .i64 (rows * cols)) && (cond (n != (rows * cols)) (k0 3) (k0 0)))) (k0 1)) (k0 1)) (k0 1))
def sQ72 (N : Nat) : TSQ72 := GQ72 N
abbrev TSQ13 : Type := Fl -> (Int -> Bool) -> Bool
def sQ13 (N : Nat) : TSQ13 := fun x k => match x with | some b => k b | none => false
abbrev TSQ64 : Type := Fl -> (Int -> Bool) -> Bool
def GQ64 (N : Nat) (SQ13 : TSQ13) (x : Fl) (k0 : Int -> Bool) : Bool :=
 (cond (!feq x x) (k0 9221120237041090561) (SQ13 x (fun nr => (k0 nr))))
def sQ64 (N : Nat) : TSQ64 := GQ64 N (sQ13 N)
abbrev TSQ44 : Type := Fl -> (Bool -> Int -> Int -> Bool) -> Bool
def GQ44 (N : Nat) (SQ64 : TSQ64) (x : Fl) (k0 : Bool -> Int -> Int -> Bool) : Bool :=
 (SQ64 x (fun nr => ((fits .i64 (Int.tmod (Int.fdiv nr (2 ^ 52)) 2048)) && (k0 ((Int.fdiv nr (2 ^ 63)) == 1) (Int.tmod (Int.fdiv nr (2 ^ 52)) 2048) (Int.tmod nr 4503599627370496)))))
def sQ44 (N : Nat) : TSQ44 := GQ44 N (sQ64 N)
abbrev TSQ56 : Type := Int -> Int -> Int -> (Int -> Bool) -> Bool
def GQ56 (N : Nat) (exp frac most : Int) (k0 : Int -> Bool) : Bool :=
 (cond ((exp == most) == true) (cond (frac != 0) (k0 1) (cond (exp == most) (k0 2) (cond ((exp == 0) == true) (cond (frac == 0) (k0 3) (cond (exp == 0) (k0 4) (k0 5))) (cond (exp == 0) (k0 4) (k0 5))))) (cond (exp == most) (k0 2) (cond ((exp == 0) == true) (cond (frac == 0) (k0 3) (cond (exp == 0) (k0 4) (k0 5))) (cond (exp == 0) (k0 4) (k0 5)))))
def sQ56 (N : Nat) : TSQ56 := GQ56 N
abbrev TSQ71 : Type := Fl -> (Int -> Bool) -> Bool
def GQ71 (N : Nat) (SQ44 : TSQ44) (SQ56 : TSQ56) (x : Fl) (k0 : Int -> Bool) : Bool :=
 (SQ44 x (fun cr nr nr_1 => (SQ56 nr nr_1 2047 (fun nr_2 => (k0 nr_2)))))
def sQ71 (N : Nat) : TSQ71 := GQ71 N (sQ44 N) (sQ56 N)
abbrev TSQ50 : Type := Fl -> (Bool -> Bool) -> Bool
def GQ50 (N : Nat) (SQ71 : TSQ71) (x : Fl) (k0 : Bool -> Bool) : Bool :=
 (SQ71 x (fun nr => (k0 (decide (nr > 2)))))
def sQ50 (N : Nat) : TSQ50 := GQ50 N (sQ71 N)
abbrev TSQ26 : Type := List Fl -> (Bool -> Bool) -> Bool
def stQ106 (N : Nat) (SQ50 : TSQ50) (t5 : List Fl) (t6 : Int) (e0 : Bool -> Bool) (e1 : Bool) : (Int) -> ((Int) -> Bool) -> Bool := fun v_ K => match v_ with
 | t7 => (cond (decide (t7 < t6)) ((inR t7 (List.length t5)) && (SQ50 (List.getD t5 (Int.toNat t7) none) (fun cr => (cond (!cr) (e0 false) ((fits .i64 (t7 + 1)) && (K (t7 + 1))))))) e1)
def GQ26 (N : Nat) (SQ50 : TSQ50) (l : List Fl) (k0 : Bool -> Bool) : Bool :=
 (iterG N (stQ106 N SQ50 l (((List.length l) : Nat) : Int) (fun t2 => (k0 t2)) (k0 true)) 0)
def sQ26 (N : Nat) : TSQ26 := GQ26 N (sQ50 N)
abbrev TSQ39 : Type := Int -> Int -> List Fl -> (Int -> Bool) -> Bool
def GQ39 (N : Nat) (SQ72 : TSQ72) (SQ26 : TSQ26) (m_0 m_1 : Int) (m_2 : List Fl) (k0 : Int -> Bool) : Bool :=
 (SQ72 m_0 m_1 (((List.length m_2) : Nat) : Int) (fun nr => (cond (nr != 0) (k0 nr) (SQ26 m_2 (fun cr => (cond (!cr) (k0 4) (k0 0)))))))
def sQ39 (N : Nat) : TSQ39 := GQ39 N (sQ72 N) (sQ26 N)
abbrev TSQ79 : Type := Int -> Int -> List Fl -> (Int -> Bool) -> Bool
def GQ79 (N : Nat) (SQ39 : TSQ39) (m_0 m_1 : Int) (m_2 : List Fl) (k0 : Int -> Bool) : Bool :=
 (SQ39 m_0 m_1 m_2 (fun nr => (k0 nr)))
def sQ79 (N : Nat) : TSQ79 := GQ79 N (sQ39 N)
abbrev TSQ54 : Type := Int -> Int -> (List Fl -> Bool) -> Bool
def GQ54 (N : Nat) (rows cols : Int) (k0 : List Fl -> Bool) : Bool :=
 ((fits .i64 (rows * cols)) && ((mkOk 8 (rows * cols) (rows * cols)) && (k0 (List.replicate (Int.toNat (rows * cols)) (some 0)))))
def sQ54 (N : Nat) : TSQ54 := GQ54 N
abbrev TSQ52 : Type := Int -> Int -> List Fl -> Int -> Int -> (Fl -> Bool) -> Bool
def GQ52 (N : Nat) (m_0 m_1 : Int) (m_2 : List Fl) (i j : Int) (k0 : Fl -> Bool) : Bool :=
 ((fits .i64 (i * m_1)) && ((fits .i64 ((i * m_1) + j)) && ((inR ((i * m_1) + j) (List.length m_2)) && (k0 (List.getD m_2 (Int.toNat ((i * m_1) + j)) none)))))
def sQ52 (N : Nat) : TSQ52 := GQ52 N
abbrev TSQ40 : Type := Int -> Int -> Int -> Int -> Fl -> List Fl -> (List Fl -> Bool) -> Bool
def GQ40 (N : Nat) (m_0 m_1 i j : Int) (x : Fl) (b : List Fl) (k0 : List Fl -> Bool) : Bool :=
 ((fits .i64 (i * m_1)) && ((fits .i64 ((i * m_1) + j)) && ((inR ((i * m_1) + j) (List.length b)) && ((decide ((Int.toNat ((i * m_1) + j)) < (List.length b))) && (k0 (List.set b (Int.toNat ((i * m_1) + j)) x))))))
def sQ40 (N : Nat) : TSQ40 := GQ40 N
abbrev TSQ73 : Type := Int -> Int -> List Fl -> (List Fl -> Bool) -> Bool
def st_z17_Turn_2 (N : Nat) (SQ54 : TSQ54) (SQ52 : TSQ52) (SQ40 : TSQ40) (i_1 m_5 m_6 : Int) (m_7 : List Fl) (t2_2 t2_3 t_2 t_3 : Int) (e0 : List Fl -> Bool) : (Int × List Fl) -> ((Int × List Fl) -> Bool) -> Bool := fun v_ K => match v_ with
 | (j, b3_1) => (cond (decide (j < m_6)) (SQ52 m_5 m_6 m_7 i_1 j (fun xr => (SQ40 t_2 t_3 j i_1 xr b3_1 (fun xsr_1 => ((fits .i64 (j + 1)) && (K ((j + 1), xsr_1))))))) (e0 b3_1))
def st_z17_Turn_0 (N : Nat) (SQ54 : TSQ54) (SQ52 : TSQ52) (SQ40 : TSQ40) (m m_3 : Int) (m_4 : List Fl) (t2 t2_1 t t_1 : Int) (e0 : List Fl -> Bool) : (Int × List Fl) -> ((Int × List Fl) -> Bool) -> Bool := fun v_ K => match v_ with
 | (i, b3) => (cond (decide (i < m)) (iterG N (st_z17_Turn_2 N SQ54 SQ52 SQ40 i m m_3 m_4 t2 t2_1 t t_1 (fun b3_2 => ((fits .i64 (i + 1)) && (K ((i + 1), b3_2))))) (0, b3)) (e0 b3))
def GQ73 (N : Nat) (SQ54 : TSQ54) (SQ52 : TSQ52) (SQ40 : TSQ40) (m_0 m_1 : Int) (m_2 : List Fl) (k0 : List Fl -> Bool) : Bool :=
 (SQ54 m_1 m_0 (fun xsr => (iterG N (st_z17_Turn_0 N SQ54 SQ52 SQ40 m_0 m_1 m_2 0 0 m_1 m_0 (fun b2 => (k0 b2))) (0, xsr))))
def sQ73 (N : Nat) : TSQ73 := GQ73 N (sQ54 N) (sQ52 N) (sQ40 N)
abbrev TSQ53 : Type := Fl -> Fl -> (Bool -> Bool) -> Bool
def GQ53 (N : Nat) (SQ64 : TSQ64) (a b : Fl) (k0 : Bool -> Bool) : Bool :=
 (SQ64 a (fun nr => (SQ64 b (fun nr_1 => (k0 (nr == nr_1))))))
def sQ53 (N : Nat) : TSQ53 := GQ53 N (sQ64 N)
abbrev TSQ46 : Type := Int -> Int -> List Fl -> (Int -> Bool) -> Bool
def stQ103 (N : Nat) (SQ39 : TSQ39) (SQ52 : TSQ52) (SQ53 : TSQ53) (i_1 m_5 m_6 : Int) (m_7 : List Fl) (e0 : Int -> Bool) (e1 : Bool) : (Int) -> ((Int) -> Bool) -> Bool := fun v_ K => match v_ with
 | j => (cond (decide (j < m_6)) (SQ52 m_5 m_6 m_7 i_1 j (fun xr_1 => (SQ53 xr_1 (some 0) (fun cr => (cond (!cr) (e0 93) ((fits .i64 (j + 1)) && (K (j + 1)))))))) e1)
def stQ107 (N : Nat) (SQ39 : TSQ39) (SQ52 : TSQ52) (SQ53 : TSQ53) (m m_3 : Int) (m_4 : List Fl) (e0 : Int -> Bool) (e1 : Bool) : (Int) -> ((Int) -> Bool) -> Bool := fun v_ K => match v_ with
 | i => (cond (decide (i < m)) (SQ52 m m_3 m_4 i i (fun xr => (cond (!(fgt xr (some 0))) (e0 93) ((fits .i64 (i + 1)) && (iterG N (stQ103 N SQ39 SQ52 SQ53 i m m_3 m_4 (fun t2 => (e0 t2)) ((fits .i64 (i + 1)) && (K (i + 1)))) (i + 1)))))) e1)
def GQ46 (N : Nat) (SQ39 : TSQ39) (SQ52 : TSQ52) (SQ53 : TSQ53) (m_0 m_1 : Int) (m_2 : List Fl) (k0 : Int -> Bool) : Bool :=
 (SQ39 m_0 m_1 m_2 (fun nr => (cond (nr != 0) (k0 nr) (cond (m_0 != m_1) (k0 3) (iterG N (stQ107 N SQ39 SQ52 SQ53 m_0 m_1 m_2 (fun t2_1 => (k0 t2_1)) (k0 0)) 0)))))
def sQ46 (N : Nat) : TSQ46 := GQ46 N (sQ39 N) (sQ52 N) (sQ53 N)
abbrev TSQ8 : Type := Int -> Int -> List Fl -> List Fl -> (Int -> Bool) -> Bool
def GQ8 (N : Nat) (SQ79 : TSQ79) (SQ26 : TSQ26) (SQ73 : TSQ73) (SQ46 : TSQ46) (a_0 a_1 : Int) (a_2 a_3 : List Fl) (k0 : Int -> Bool) : Bool :=
 (SQ79 a_0 a_1 a_2 (fun nr => (cond (nr != 0) (k0 nr) (cond ((a_0 != a_1) == false) (cond ((((List.length a_3) : Nat) : Int) != a_0) (k0 3) (SQ26 a_3 (fun cr => (cond (!cr) (k0 4) (SQ73 a_0 a_1 a_2 (fun xsr => (SQ46 a_1 a_0 xsr (fun nr_1 => (cond (nr_1 != 0) (k0 171) (k0 0)))))))))) (k0 3)))))
def sQ8 (N : Nat) : TSQ8 := GQ8 N (sQ79 N) (sQ26 N) (sQ73 N) (sQ46 N)
abbrev TSQ4 : Type := (Bool -> Bool) -> Bool
def sQ4 (N : Nat) : TSQ4 := fun k => k true
abbrev TSQ7 : Type := Int -> (Fl -> Bool) -> Bool
def GQ7 (N : Nat) (SQ37 : TSQ37) (b : Int) (k0 : Fl -> Bool) : Bool :=
 (SQ37 b (fun xr => (k0 xr)))
def sQ7 (N : Nat) : TSQ7 := GQ7 N (sQ37 N)
abbrev TSQ59 : Type := Int -> (Bool -> Bool) -> Bool
def GQ59 (N : Nat) (n : Int) (k0 : Bool -> Bool) : Bool :=
 (cond ((decide (n >= 0)) == true) (k0 (decide (n <= 12))) (k0 false))
def sQ59 (N : Nat) : TSQ59 := GQ59 N
abbrev TSQ69 : Type := Fl -> (Int -> Bool) -> Bool
def sQ69 (N : Nat) : TSQ69 := fun x k => k (clsF x)
abbrev TSQ24 : Type := List Fl -> (Bool -> Bool) -> Bool
def st_an_Finite_0 (N : Nat) (SQ69 : TSQ69) (t6 : List Fl) (t7 : Int) (e0 : Bool -> Bool) (e1 : Bool) : (Int) -> ((Int) -> Bool) -> Bool := fun v_ K => match v_ with
 | t8 => (cond (decide (t8 < t7)) ((inR t8 (List.length t6)) && (SQ69 (List.getD t6 (Int.toNat t8) none) (fun nr => (cond ((nr == 1) == false) (cond (nr == 2) (e0 false) ((fits .i64 (t8 + 1)) && (K (t8 + 1)))) (e0 false))))) e1)
def GQ24 (N : Nat) (SQ69 : TSQ69) (l : List Fl) (k0 : Bool -> Bool) : Bool :=
 (iterG N (st_an_Finite_0 N SQ69 l (((List.length l) : Nat) : Int) (fun t2 => (k0 t2)) (k0 true)) 0)
def sQ24 (N : Nat) : TSQ24 := GQ24 N (sQ69 N)
abbrev TSQ20 : Type := Int -> Int -> List Fl -> (Int -> Bool) -> Bool
def GQ20 (N : Nat) (SQ59 : TSQ59) (SQ24 : TSQ24) (m_0 m_1 : Int) (m_2 : List Fl) (k0 : Int -> Bool) : Bool :=
 (SQ59 m_0 (fun cr => (cond ((!cr) == false) (SQ59 m_1 (fun cr_1 => (cond (!cr_1) (k0 1) ((fits .i64 (m_0 * m_1)) && (cond ((((List.length m_2) : Nat) : Int) != (m_0 * m_1)) (k0 3) (SQ24 m_2 (fun cr_2 => (cond (!cr_2) (k0 4) (k0 0))))))))) (k0 1))))
def sQ20 (N : Nat) : TSQ20 := GQ20 N (sQ59 N) (sQ24 N)
abbrev TS_info_CheckRoot : Type := Int -> Int -> List Fl -> List Fl -> (Int -> Bool) -> Bool
def st_info_CheckRoot_3 (N : Nat) (SQ20 : TSQ20) (SQ24 : TSQ24) (SQ13 : TSQ13) (n_1 i t34_1 t35_1 t50 a_7 a_8 : Int) (a_9 a_10 : List Fl) (e0 : Int -> Bool) (e1 : Bool) : (Int) -> ((Int) -> Bool) -> Bool := fun v_ K => match v_ with
 | t51 => (cond (decide (t51 < t50)) ((fits .i64 (i * n_1)) && ((fits .i64 ((i * n_1) + t51)) && ((inR ((i * n_1) + t51) (List.length a_9)) && (SQ13 (List.getD a_9 (Int.toNat ((i * n_1) + t51)) none) (fun nr_1 => (cond (nr_1 != 0) (e0 171) ((fits .i64 (t51 + 1)) && (K (t51 + 1))))))))) e1)
def st_info_CheckRoot_1 (N : Nat) (SQ20 : TSQ20) (SQ24 : TSQ24) (SQ13 : TSQ13) (n t34 a a_4 : Int) (a_5 a_6 : List Fl) (e0 : Int -> Bool) (e1 : Bool) : (Int) -> ((Int) -> Bool) -> Bool := fun v_ K => match v_ with
 | t35 => (cond (decide (t35 < t34)) ((fits .i64 (t35 * n)) && ((fits .i64 ((t35 * n) + t35)) && ((inR ((t35 * n) + t35) (List.length a_5)) && (cond (!(fgt (List.getD a_5 (Int.toNat ((t35 * n) + t35)) none) (some 0))) (e0 171) (iterG N (st_info_CheckRoot_3 N SQ20 SQ24 SQ13 n t35 t34 t35 t35 a a_4 a_5 a_6 (fun t2 => (e0 t2)) ((fits .i64 (t35 + 1)) && (K (t35 + 1)))) 0))))) e1)
def G_info_CheckRoot (N : Nat) (SQ20 : TSQ20) (SQ24 : TSQ24) (SQ13 : TSQ13) (a_0 a_1 : Int) (a_2 a_3 : List Fl) (k0 : Int -> Bool) : Bool :=
 (SQ20 a_0 a_1 a_2 (fun nr => (cond (nr != 0) (k0 nr) (cond ((a_0 != a_1) == false) (cond ((((List.length a_3) : Nat) : Int) != a_0) (k0 3) (SQ24 a_3 (fun cr => (cond (!cr) (k0 4) (iterG N (st_info_CheckRoot_1 N SQ20 SQ24 SQ13 a_0 a_0 a_0 a_1 a_2 a_3 (fun t2_1 => (k0 t2_1)) (k0 0)) 0))))) (k0 3)))))
def s_info_CheckRoot (N : Nat) : TS_info_CheckRoot := G_info_CheckRoot N (sQ20 N) (sQ24 N) (sQ13 N)
abbrev TS_info_line : Type := Int -> List Fl -> Fl -> Fl -> (Int -> Bool) -> Bool
def G_info_line (N : Nat) (SQ24 : TSQ24) (n : Int) (h : List Fl) (r z : Fl) (k0 : Int -> Bool) : Bool :=
 (cond ((((List.length h) : Nat) : Int) != n) (k0 3) (SQ24 h (fun cr => (cond (!cr) (k0 4) (SQ24 [r] (fun cr_1 => (cond (!cr_1) (k0 4) (cond (fle r (some 0)) (k0 152) (SQ24 [z] (fun cr_2 => (cond (!cr_2) (k0 4) (k0 0))))))))))))
def s_info_line (N : Nat) : TS_info_line := G_info_line N (sQ24 N)
abbrev TSQ98 : Type := Fl -> (Fl -> Bool) -> Bool
def sQ98 (N : Nat) : TSQ98 := fun x k => k (fsqrt x)
abbrev TSQ17 : Type := Fl -> (Fl -> Bool) -> Bool
def GQ17 (N : Nat) (SQ98 : TSQ98) (x : Fl) (k0 : Fl -> Bool) : Bool :=
 (SQ98 x (fun xr => (k0 xr)))
def sQ17 (N : Nat) : TSQ17 := GQ17 N (sQ98 N)
abbrev TS_slices_Clone___float64_float64_ : Type := List Fl -> (List Fl -> Bool) -> Bool
def s_slices_Clone___float64_float64_ (N : Nat) : TS_slices_Clone___float64_float64_ := fun x k => (decide (x.length * 8 <= 140737488355328)) && k x
abbrev TS_m_Abs : Type := Fl -> (Fl -> Bool) -> Bool
def s_m_Abs (N : Nat) : TS_m_Abs := fun x k => k (absF x)
abbrev TSQ63 : Type := Fl -> Int -> (Bool -> Bool) -> Bool
def GQ63 (N : Nat) (S_m_Abs : TS_m_Abs) (f : Fl) (sign : Int) (k0 : Bool -> Bool) : Bool :=
 (cond (sign == 0) (S_m_Abs f (fun xr => (k0 (fgt xr (some 9218868437227405311))))) (cond (decide (sign < 0)) (k0 (fgt (fneg f) (some 9218868437227405311))) (k0 (fgt f (some 9218868437227405311)))))
def sQ63 (N : Nat) : TSQ63 := GQ63 N (s_m_Abs N)
abbrev TSQ25 : Type := Fl -> Bool -> (Bool -> Bool) -> Bool
def GQ25 (N : Nat) (SQ63 : TSQ63) (x : Fl) (b : Bool) (k0 : Bool -> Bool) : Bool :=
 (cond ((!feq x x) == false) (SQ63 x 0 (fun cr => (cond cr (k0 true) (k0 b)))) (k0 true))
def sQ25 (N : Nat) : TSQ25 := GQ25 N (sQ63 N)
abbrev TSQ21 : Type := Fl -> Fl -> Bool -> (Fl -> Bool -> Bool) -> Bool
def GQ21 (N : Nat) (SQ25 : TSQ25) (a b : Fl) (b_1 : Bool) (k0 : Fl -> Bool -> Bool) : Bool :=
 (SQ25 (fmul a b) b_1 (fun cr => (k0 (fmul a b) cr)))
def sQ21 (N : Nat) : TSQ21 := GQ21 N (sQ25 N)
abbrev TSQ22 : Type := Bool -> (Bool) -> Bool
def GQ22 (N : Nat) (b k0 : Bool) : Bool :=
 k0
def sQ22 (N : Nat) : TSQ22 := GQ22 N
abbrev TS_v_info_rotation_turn_p0 : Type := Fl -> Fl -> Fl -> Fl -> Bool -> (Fl -> Fl -> Bool -> Bool) -> Bool
def G_v_info_rotation_turn_p0 (N : Nat) (SQ21 : TSQ21) (SQ25 : TSQ25) (r_0 r_1 a b : Fl) (b_1 : Bool) (k0 : Fl -> Fl -> Bool -> Bool) : Bool :=
 (SQ21 r_0 a b_1 (fun xr cr => (SQ21 r_1 b cr (fun xr_1 cr_1 => (SQ25 (fadd xr xr_1) cr_1 (fun cr_2 => (SQ21 r_0 b cr_2 (fun xr_2 cr_3 => (SQ21 r_1 a cr_3 (fun xr_3 cr_4 => (SQ25 (fsub xr_2 xr_3) cr_4 (fun cr_5 => (k0 (fadd xr xr_1) (fsub xr_2 xr_3) cr_5)))))))))))))
def s_v_info_rotation_turn_p0 (N : Nat) : TS_v_info_rotation_turn_p0 := G_v_info_rotation_turn_p0 N (sQ21 N) (sQ25 N)
abbrev TS_info_UpdateRoot : Type := Int -> Int -> List Fl -> List Fl -> List Fl -> Fl -> Fl -> (Int -> Int -> Fl -> Int -> Bool) -> (Int -> Int -> Fl -> Int -> List Fl -> List Fl -> Bool) -> Bool
def st_info_UpdateRoot_0 (N : Nat) (S_info_CheckRoot : TS_info_CheckRoot) (S_info_line : TS_info_line) (SQ17 : TSQ17) (S_slices_Clone___float64_float64_ : TS_slices_Clone___float64_float64_) (SQ25 : TSQ25) (SQ21 : TSQ21) (SQ22 : TSQ22) (S_v_info_rotation_turn_p0 : TS_v_info_rotation_turn_p0) (h_1 : List Fl) (z_1 : Fl) (n : Int) (d : Fl) (t60 t8 t8_1 out out_1 : Int) (b4 b5 : List Fl) (e0 : Bool -> List Fl -> Bool) : (Int × Bool × List Fl) -> ((Int × Bool × List Fl) -> Bool) -> Bool := fun v_ K => match v_ with
 | (t61, steps, w) => (cond (decide (t61 < t60)) ((inR t61 (List.length h_1)) && (SQ25 (fdiv (List.getD h_1 (Int.toNat t61) none) d) steps (fun cr => ((inR t61 (List.length w)) && ((decide ((Int.toNat t61) < (List.length w))) && ((fits .i64 (t61 + 1)) && (K ((t61 + 1), cr, (List.set w (Int.toNat t61) (fdiv (List.getD h_1 (Int.toNat t61) none) d)))))))))) (e0 steps w))
def st_info_UpdateRoot_4 (N : Nat) (S_info_CheckRoot : TS_info_CheckRoot) (S_info_line : TS_info_line) (SQ17 : TSQ17) (S_slices_Clone___float64_float64_ : TS_slices_Clone___float64_float64_) (SQ25 : TSQ25) (SQ21 : TSQ21) (SQ22 : TSQ22) (S_v_info_rotation_turn_p0 : TS_v_info_rotation_turn_p0) (n_2 : Int) (rest_1 : Fl) (i t81_1 t82_1 t8_4 t8_5 out_4 out_5 : Int) (t t_1 : Fl) (b6 : List Fl) (e0 : Bool -> List Fl -> List Fl -> Bool) : (Int × Bool × List Fl × List Fl) -> ((Int × Bool × List Fl × List Fl) -> Bool) -> Bool := fun v_ K => match v_ with
 | (j, steps_3, w_3, b5_2) => (cond (decide (j < n_2)) ((fits .i64 (i * n_2)) && ((fits .i64 ((i * n_2) + j)) && ((fits .i64 (i * n_2)) && ((fits .i64 ((i * n_2) + j)) && ((inR ((i * n_2) + j) (List.length b5_2)) && ((decide ((Int.toNat ((i * n_2) + j)) < (List.length b5_2))) && ((inR j (List.length w_3)) && ((decide ((Int.toNat j) < (List.length w_3))) && (S_v_info_rotation_turn_p0 t t_1 (List.getD b5_2 (Int.toNat ((i * n_2) + j)) none) (List.getD w_3 (Int.toNat j) none) steps_3 (fun xr_4 xr_5 c8 => ((inR ((i * n_2) + j) (List.length b5_2)) && ((decide ((Int.toNat ((i * n_2) + j)) < (List.length b5_2))) && ((inR j (List.length w_3)) && ((decide ((Int.toNat j) < (List.length w_3))) && ((fits .i64 (j + 1)) && (K ((j + 1), c8, (List.set w_3 (Int.toNat j) xr_5), (List.set b5_2 (Int.toNat ((i * n_2) + j)) xr_4)))))))))))))))))) (e0 steps_3 w_3 b5_2))
def st_info_UpdateRoot_2 (N : Nat) (S_info_CheckRoot : TS_info_CheckRoot) (S_info_line : TS_info_line) (SQ17 : TSQ17) (S_slices_Clone___float64_float64_ : TS_slices_Clone___float64_float64_) (SQ25 : TSQ25) (SQ21 : TSQ21) (SQ22 : TSQ22) (S_v_info_rotation_turn_p0 : TS_v_info_rotation_turn_p0) (n_1 t81 t8_2 t8_3 out_2 out_3 : Int) (e0 : Fl -> Int -> Int -> Int -> Bool) (e1 : Fl -> Bool -> List Fl -> List Fl -> Bool) : (Fl × Int × Bool × List Fl × List Fl × List Fl) -> ((Fl × Int × Bool × List Fl × List Fl × List Fl) -> Bool) -> Bool := fun v_ K => match v_ with
 | (rest, t82, steps_2, w_2, b4_1, b5_1) => (cond (decide (t82 < t81)) ((inR t82 (List.length w_2)) && ((decide ((Int.toNat t82) < (List.length w_2))) && (cond (feq (List.getD w_2 (Int.toNat t82) none) (some 0)) ((fits .i64 (t82 + 1)) && (K (rest, (t82 + 1), steps_2, w_2, b4_1, b5_1))) ((fits .i64 (t82 * n_1)) && ((fits .i64 ((t82 * n_1) + t82)) && ((inR ((t82 * n_1) + t82) (List.length b4_1)) && ((decide ((Int.toNat ((t82 * n_1) + t82)) < (List.length b4_1))) && (SQ21 (List.getD b4_1 (Int.toNat ((t82 * n_1) + t82)) none) (List.getD b4_1 (Int.toNat ((t82 * n_1) + t82)) none) steps_2 (fun xr_1 cr_2 => ((inR t82 (List.length w_2)) && ((decide ((Int.toNat t82) < (List.length w_2))) && ((inR t82 (List.length w_2)) && ((decide ((Int.toNat t82) < (List.length w_2))) && (SQ21 (List.getD w_2 (Int.toNat t82) none) (List.getD w_2 (Int.toNat t82) none) cr_2 (fun xr_2 cr_3 => (SQ25 (fadd xr_1 xr_2) cr_3 (fun cr_4 => (SQ17 (fadd xr_1 xr_2) (fun xr_3 => (SQ25 xr_3 cr_4 (fun cr_5 => (SQ22 cr_5 (cond cr_5 (e0 (some 0) 5 0 0) (cond (!(fgt xr_3 (some 0))) (e0 (some 0) 171 0 0) (SQ25 (fdiv (List.getD b4_1 (Int.toNat ((t82 * n_1) + t82)) none) xr_3) cr_5 (fun cr_6 => ((inR t82 (List.length w_2)) && ((decide ((Int.toNat t82) < (List.length w_2))) && (SQ25 (fdiv (List.getD w_2 (Int.toNat t82) none) xr_3) cr_6 (fun cr_7 => ((fits .i64 (t82 * n_1)) && ((fits .i64 ((t82 * n_1) + t82)) && ((inR ((t82 * n_1) + t82) (List.length b4_1)) && ((decide ((Int.toNat ((t82 * n_1) + t82)) < (List.length b4_1))) && ((fits .i64 (t82 + 1)) && (iterG N (st_info_UpdateRoot_4 N S_info_CheckRoot S_info_line SQ17 S_slices_Clone___float64_float64_ SQ25 SQ21 SQ22 S_v_info_rotation_turn_p0 n_1 rest t82 t81 t82 t8_2 t8_3 out_2 out_3 (fdiv (List.getD b4_1 (Int.toNat ((t82 * n_1) + t82)) none) xr_3) (fdiv (List.getD w_2 (Int.toNat t82) none) xr_3) b5_1 (fun steps_4 w_4 b5_3 => ((inR t82 (List.length b5_1)) && ((decide ((Int.toNat t82) < (List.length b5_1))) && (S_v_info_rotation_turn_p0 (fdiv (List.getD b4_1 (Int.toNat ((t82 * n_1) + t82)) none) xr_3) (fdiv (List.getD w_2 (Int.toNat t82) none) xr_3) (List.getD b5_1 (Int.toNat t82) none) rest steps_4 (fun xr_6 xr_7 c9 => ((inR t82 (List.length b5_1)) && ((decide ((Int.toNat t82) < (List.length b5_1))) && ((fits .i64 (t82 + 1)) && (K (xr_7, (t82 + 1), c9, w_4, b5_3, (List.set b5_1 (Int.toNat t82) xr_6)))))))))))) ((t82 + 1), cr_7, w_2, (List.set b4_1 (Int.toNat ((t82 * n_1) + t82)) xr_3)))))))))))))))))))))))))))))))))))))) (e1 rest steps_2 b4_1 b5_1))
def G_info_UpdateRoot (N : Nat) (S_info_CheckRoot : TS_info_CheckRoot) (S_info_line : TS_info_line) (SQ17 : TSQ17) (S_slices_Clone___float64_float64_ : TS_slices_Clone___float64_float64_) (SQ25 : TSQ25) (SQ21 : TSQ21) (SQ22 : TSQ22) (S_v_info_rotation_turn_p0 : TS_v_info_rotation_turn_p0) (a_0 a_1 : Int) (a_2 a_3 h : List Fl) (r z : Fl) (k0 : Int -> Int -> Fl -> Int -> Bool) (k1 : Int -> Int -> Fl -> Int -> List Fl -> List Fl -> Bool) : Bool :=
 (S_info_CheckRoot a_0 a_1 a_2 a_3 (fun nr => (cond (nr != 0) (k0 0 0 (some 0) nr) (S_info_line (((List.length a_3) : Nat) : Int) h r z (fun nr_1 => (cond (nr_1 != 0) (k0 0 0 (some 0) nr_1) (SQ17 r (fun xr => (S_slices_Clone___float64_float64_ a_2 (fun xsr => (S_slices_Clone___float64_float64_ a_3 (fun xsr_1 => ((mkOk 8 (((List.length a_3) : Nat) : Int) (((List.length a_3) : Nat) : Int)) && (iterG N (st_info_UpdateRoot_0 N S_info_CheckRoot S_info_line SQ17 S_slices_Clone___float64_float64_ SQ25 SQ21 SQ22 S_v_info_rotation_turn_p0 h z (((List.length a_3) : Nat) : Int) xr (((List.length a_3) : Nat) : Int) 0 0 (((List.length a_3) : Nat) : Int) (((List.length a_3) : Nat) : Int) xsr xsr_1 (fun steps_1 w_1 => (SQ25 (fdiv z xr) steps_1 (fun cr_1 => (iterG N (st_info_UpdateRoot_2 N S_info_CheckRoot S_info_line SQ17 S_slices_Clone___float64_float64_ SQ25 SQ21 SQ22 S_v_info_rotation_turn_p0 (((List.length a_3) : Nat) : Int) (((List.length a_3) : Nat) : Int) 0 0 (((List.length a_3) : Nat) : Int) (((List.length a_3) : Nat) : Int) (fun t9 t10 t8_6 t8_7 => (k0 t8_6 t8_7 t9 t10)) (fun rest_2 steps_5 b3 b4_2 => (SQ22 steps_5 (cond steps_5 (k0 0 0 (some 0) 5) (k1 (((List.length a_3) : Nat) : Int) (((List.length a_3) : Nat) : Int) rest_2 0 b3 b4_2))))) ((fdiv z xr), 0, cr_1, w_1, xsr, xsr_1)))))) (0, false, (List.replicate (Int.toNat (((List.length a_3) : Nat) : Int)) (some 0)))))))))))))))))
def s_info_UpdateRoot (N : Nat) : TS_info_UpdateRoot := G_info_UpdateRoot N (s_info_CheckRoot N) (s_info_line N) (sQ17 N) (s_slices_Clone___float64_float64_ N) (sQ25 N) (sQ21 N) (sQ22 N) (s_v_info_rotation_turn_p0 N)
abbrev TSQ15 : Type := List Fl -> List Fl -> (Bool -> Bool) -> Bool
def stQ99 (N : Nat) (SQ13 : TSQ13) (a_1 b_1 : List Fl) (t12 : Int) (e0 : Bool -> Bool) (e1 : Bool) : (Int) -> ((Int) -> Bool) -> Bool := fun v_ K => match v_ with
 | t13 => (cond (decide (t13 < t12)) ((inR t13 (List.length a_1)) && (SQ13 (List.getD a_1 (Int.toNat t13) none) (fun nr => ((inR t13 (List.length b_1)) && (SQ13 (List.getD b_1 (Int.toNat t13) none) (fun nr_1 => (cond (nr != nr_1) (e0 false) ((fits .i64 (t13 + 1)) && (K (t13 + 1)))))))))) e1)
def GQ15 (N : Nat) (SQ13 : TSQ13) (a b : List Fl) (k0 : Bool -> Bool) : Bool :=
 (cond ((((List.length a) : Nat) : Int) != (((List.length b) : Nat) : Int)) (k0 false) (iterG N (stQ99 N SQ13 a b (((List.length a) : Nat) : Int) (fun t4 => (k0 t4)) (k0 true)) 0))
def sQ15 (N : Nat) : TSQ15 := GQ15 N (sQ13 N)
abbrev TSQ29 : Type := Int -> Int -> List Fl -> Int -> Int -> List Fl -> (Bool -> Bool) -> Bool
def GQ29 (N : Nat) (SQ15 : TSQ15) (a_0 a_1 : Int) (a_2 : List Fl) (b_0 b_1 : Int) (b_2 : List Fl) (k0 : Bool -> Bool) : Bool :=
 (cond ((a_0 == b_0) == true) (cond ((a_1 == b_1) == true) (SQ15 a_2 b_2 (fun cr => (k0 cr))) (k0 false)) (k0 false))
def sQ29 (N : Nat) : TSQ29 := GQ29 N (sQ15 N)
abbrev TSQ5 : Type := Int -> Int -> List Fl -> List Fl -> Int -> Int -> List Fl -> List Fl -> (Bool -> Bool) -> Bool
def GQ5 (N : Nat) (SQ15 : TSQ15) (SQ29 : TSQ29) (a_0 a_1 : Int) (a_2 a_3 : List Fl) (b_0 b_1 : Int) (b_2 b_3 : List Fl) (k0 : Bool -> Bool) : Bool :=
 (SQ15 a_3 b_3 (fun cr => (cond (cr == true) (SQ29 a_0 a_1 a_2 b_0 b_1 b_2 (fun cr_1 => (k0 cr_1))) (k0 false))))
def sQ5 (N : Nat) : TSQ5 := GQ5 N (sQ15 N) (sQ29 N)
abbrev TSQ9 : Type := List Int -> (Nat -> Bool) -> Bool
def stQ105 (N m_1 : Nat) (m_3 : List Int) (e0 : Nat -> Bool) : (Nat) -> ((Nat) -> Bool) -> Bool := fun v_ K => match v_ with
 | m_2 => (cond ((decide (((m_2 : Nat) : Int) > 0)) == true) ((fits .i64 (((m_2 : Nat) : Int) - 1)) && ((inR (((m_2 : Nat) : Int) - 1) m_2) && ((decide ((m_1 + (Int.toNat (((m_2 : Nat) : Int) - 1))) < (List.length m_3))) && (cond ((List.getD m_3 (m_1 + (Int.toNat (((m_2 : Nat) : Int) - 1))) 0) == 0) ((fits .i64 (((m_2 : Nat) : Int) - 1)) && ((decide (0 <= (((m_2 : Nat) : Int) - 1) /\ (((m_2 : Nat) : Int) - 1) <= ((m_2 : Nat) : Int))) && (K ((Int.toNat (((m_2 : Nat) : Int) - 1)) - 0)))) (e0 m_2))))) (e0 m_2))
def GQ9 (N : Nat) (b : List Int) (k0 : Nat -> Bool) : Bool :=
 (iterG N (stQ105 N 0 b (fun m_4 => (k0 m_4))) (List.length b))
def sQ9 (N : Nat) : TSQ9 := GQ9 N
abbrev TSQ45 : Type := Int -> (List Int -> Bool) -> Bool
def GQ45 (N : Nat) (SQ9 : TSQ9) (n : Int) (k0 : List Int -> Bool) : Bool :=
 (SQ9 [(IntKind.wrap .u32 n), (IntKind.wrap .u32 (Int.fdiv n (2 ^ 32)))] (fun mr => ((decide ((0 + mr) <= (List.length [(IntKind.wrap .u32 n), (IntKind.wrap .u32 (Int.fdiv n (2 ^ 32)))]))) && (k0 (List.take mr (List.drop 0 [(IntKind.wrap .u32 n), (IntKind.wrap .u32 (Int.fdiv n (2 ^ 32)))]))))))
def sQ45 (N : Nat) : TSQ45 := GQ45 N (sQ9 N)
abbrev TSQ87 : Type := List Int -> (List Int -> Bool) -> Bool
def st_z00_cut_0 (N : Nat) (e0 : List Int -> Bool) : (List Int) -> ((List Int) -> Bool) -> Bool := fun v_ K => match v_ with
 | m_1 => (cond ((decide ((((List.length m_1) : Nat) : Int) > 0)) == true) ((fits .i64 ((((List.length m_1) : Nat) : Int) - 1)) && ((inR ((((List.length m_1) : Nat) : Int) - 1) (List.length m_1)) && (cond ((List.getD m_1 (Int.toNat ((((List.length m_1) : Nat) : Int) - 1)) 0) == 0) ((fits .i64 ((((List.length m_1) : Nat) : Int) - 1)) && ((decide (0 <= ((((List.length m_1) : Nat) : Int) - 1) /\ ((((List.length m_1) : Nat) : Int) - 1) <= (((List.length m_1) : Nat) : Int))) && (K (List.drop 0 (List.take (Int.toNat ((((List.length m_1) : Nat) : Int) - 1)) m_1))))) (e0 m_1)))) (e0 m_1))
def GQ87 (N : Nat) (m : List Int) (k0 : List Int -> Bool) : Bool :=
 (iterG N (st_z00_cut_0 N (fun m_2 => (k0 m_2))) m)
def sQ87 (N : Nat) : TSQ87 := GQ87 N
abbrev TSQ16 : Type := Bool -> List Int -> Bool -> (Bool -> List Int -> Bool) -> Bool
def GQ16 (N : Nat) (SQ87 : TSQ87) (neg : Bool) (m : List Int) (b : Bool) (k0 : Bool -> List Int -> Bool) : Bool :=
 (SQ87 m (fun nsr => (cond (neg == true) (k0 (decide ((((List.length nsr) : Nat) : Int) > 0)) nsr) (k0 false nsr))))
def sQ16 (N : Nat) : TSQ16 := GQ16 N (sQ87 N)
abbrev TSQ35 : Type := Int -> Bool -> (Bool -> List Int -> Bool) -> Bool
def JQ96 (N : Nat) (SQ45 : TSQ45) (SQ16 : TSQ16) (n : Int) (b : Bool) (u : Int) (k0 : Bool -> List Int -> Bool) : Bool :=
 (SQ45 u (fun nsr => (SQ16 (decide (n < 0)) nsr b (fun cr nsr_1 => (k0 cr nsr_1)))))
def GQ35 (N : Nat) (SQ45 : TSQ45) (SQ16 : TSQ16) (n : Int) (b : Bool) (k0 : Bool -> List Int -> Bool) : Bool :=
 (cond (decide (n < 0)) (JQ96 N SQ45 SQ16 n b (IntKind.wrap .u64 (0 - (IntKind.wrap .u64 n))) k0) (JQ96 N SQ45 SQ16 n b (IntKind.wrap .u64 n) k0))
def sQ35 (N : Nat) : TSQ35 := GQ35 N (sQ45 N) (sQ16 N)
abbrev TSQ47 : Type := Int -> (Bool -> List Int -> Bool) -> Bool
def GQ47 (N : Nat) (SQ35 : TSQ35) (n : Int) (k0 : Bool -> List Int -> Bool) : Bool :=
 (SQ35 n false (fun cr nsr => (k0 cr nsr)))
def sQ47 (N : Nat) : TSQ47 := GQ47 N (sQ35 N)
abbrev TSQ11 : Type := Int -> (Int -> Bool -> List Int -> Bool) -> Bool
def GQ11 (N : Nat) (SQ47 : TSQ47) (n : Int) (k0 : Int -> Bool -> List Int -> Bool) : Bool :=
 (SQ47 n (fun cr nsr => (k0 0 cr nsr)))
def sQ11 (N : Nat) : TSQ11 := GQ11 N (sQ47 N)
abbrev TSQ10 : Type := Int -> (Bool -> List Int -> Bool) -> Bool
def GQ10 (N : Nat) (SQ47 : TSQ47) (e : Int) (k0 : Bool -> List Int -> Bool) : Bool :=
 (SQ47 1 (fun cr nsr => (k0 cr nsr)))
def sQ10 (N : Nat) : TSQ10 := GQ10 N (sQ47 N)
abbrev TSQ57 : Type := Bool -> Bool -> List Int -> (Bool -> Nat -> Nat -> Bool) -> Bool
def GQ57 (N : Nat) (SQ9 : TSQ9) (neg b : Bool) (b_1 : List Int) (k0 : Bool -> Nat -> Nat -> Bool) : Bool :=
 (SQ9 b_1 (fun mr => (cond (neg == true) (k0 (decide (((mr : Nat) : Int) > 0)) 0 mr) (k0 false 0 mr))))
def sQ57 (N : Nat) : TSQ57 := GQ57 N (sQ9 N)
abbrev TSQ49 : Type := Bool -> Bool -> List Int -> (Bool -> List Int -> Bool) -> Bool
def GQ49 (N : Nat) (SQ57 : TSQ57) (b b_1 : Bool) (b_2 : List Int) (k0 : Bool -> List Int -> Bool) : Bool :=
 ((decide ((List.length ([] ++ b_2)) * 4 <= 140737488355328)) && (SQ57 (!b_1) b ([] ++ b_2) (fun cr mr mr_1 => ((decide ((mr + mr_1) <= (List.length ([] ++ b_2)))) && (k0 cr (List.take mr_1 (List.drop mr ([] ++ b_2))))))))
def sQ49 (N : Nat) : TSQ49 := GQ49 N (sQ57 N)
abbrev TSQ3 : Type := Int -> Bool -> List Int -> (Bool -> List Int -> Bool) -> Bool
def GQ3 (N : Nat) (SQ49 : TSQ49) (x : Int) (b : Bool) (b_1 : List Int) (k0 : Bool -> List Int -> Bool) : Bool :=
 (SQ49 false b b_1 (fun cr nsr => (k0 cr nsr)))
def sQ3 (N : Nat) : TSQ3 := GQ3 N (sQ49 N)
abbrev TSQ36 : Type := Bool -> List Int -> (Int -> Bool) -> Bool
def GQ36 (N : Nat) (b : Bool) (b_1 : List Int) (k0 : Int -> Bool) : Bool :=
 (cond ((((List.length b_1) : Nat) : Int) == 0) (k0 0) (cond b (k0 (-1)) (k0 1)))
def sQ36 (N : Nat) : TSQ36 := GQ36 N
abbrev TSQ76 : Type := List Int -> Int -> (List Int -> Bool) -> Bool
def st_z00_left_0 (N : Nat) (SQ9 : TSQ9) (m_1 : List Int) (w s : Int) (e0 : List Int -> Bool) : (Int × List Int) -> ((Int × List Int) -> Bool) -> Bool := fun v_ K => match v_ with
 | (i, out) => (cond (decide (i < (((List.length m_1) : Nat) : Int))) ((inR i (List.length m_1)) && ((decide (0 <= s)) && ((fits .i64 (w + i)) && ((inR (w + i) (List.length out)) && ((decide ((Int.toNat (w + i)) < (List.length out))) && ((inR (w + i) (List.length out)) && ((decide ((Int.toNat (w + i)) < (List.length out))) && ((fits .i64 (w + i)) && ((fits .i64 ((w + i) + 1)) && ((inR ((w + i) + 1) (List.length (List.set out (Int.toNat (w + i)) (bitsN .or .u32 (List.getD out (Int.toNat (w + i)) 0) (IntKind.wrap .u32 (IntKind.wrap .u64 ((IntKind.wrap .u64 (List.getD m_1 (Int.toNat i) 0)) * 2 ^ (min (Int.toNat s) 64)))))))) && ((decide ((Int.toNat ((w + i) + 1)) < (List.length (List.set out (Int.toNat (w + i)) (bitsN .or .u32 (List.getD out (Int.toNat (w + i)) 0) (IntKind.wrap .u32 (IntKind.wrap .u64 ((IntKind.wrap .u64 (List.getD m_1 (Int.toNat i) 0)) * 2 ^ (min (Int.toNat s) 64))))))))) && ((fits .i64 (i + 1)) && (K ((i + 1), (List.set (List.set out (Int.toNat (w + i)) (bitsN .or .u32 (List.getD out (Int.toNat (w + i)) 0) (IntKind.wrap .u32 (IntKind.wrap .u64 ((IntKind.wrap .u64 (List.getD m_1 (Int.toNat i) 0)) * 2 ^ (min (Int.toNat s) 64)))))) (Int.toNat ((w + i) + 1)) (IntKind.wrap .u32 (Int.fdiv (IntKind.wrap .u64 ((IntKind.wrap .u64 (List.getD m_1 (Int.toNat i) 0)) * 2 ^ (min (Int.toNat s) 64))) (2 ^ 32)))))))))))))))))) (e0 out))
def GQ76 (N : Nat) (SQ9 : TSQ9) (m : List Int) (n : Int) (k0 : List Int -> Bool) : Bool :=
 (cond ((((List.length m) : Nat) : Int) == 0) (k0 []) ((fits .i64 (IntKind.wrap .u64 (Int.tdiv n 32))) && ((fits .i64 ((IntKind.wrap .u64 (Int.tdiv n 32)) + (((List.length m) : Nat) : Int))) && ((fits .i64 (((IntKind.wrap .u64 (Int.tdiv n 32)) + (((List.length m) : Nat) : Int)) + 1)) && ((mkOk 4 (((IntKind.wrap .u64 (Int.tdiv n 32)) + (((List.length m) : Nat) : Int)) + 1) (((IntKind.wrap .u64 (Int.tdiv n 32)) + (((List.length m) : Nat) : Int)) + 1)) && (iterG N (st_z00_left_0 N SQ9 m (IntKind.wrap .u64 (Int.tdiv n 32)) (Int.tmod n 32) (fun out_1 => (SQ9 out_1 (fun mr => ((decide ((0 + mr) <= (List.length out_1))) && (k0 (List.take mr (List.drop 0 out_1)))))))) (0, (List.replicate (Int.toNat (((IntKind.wrap .u64 (Int.tdiv n 32)) + (((List.length m) : Nat) : Int)) + 1)) (0 : Int)))))))))
def sQ76 (N : Nat) : TSQ76 := GQ76 N (sQ9 N)
abbrev TSQ48 : Type := Int -> Bool -> Bool -> List Int -> (Bool -> List Int -> Bool) -> Bool
def GQ48 (N : Nat) (SQ76 : TSQ76) (SQ16 : TSQ16) (n : Int) (b b_1 : Bool) (b_2 : List Int) (k0 : Bool -> List Int -> Bool) : Bool :=
 (SQ76 b_2 n (fun nsr => (SQ16 b_1 nsr b (fun cr nsr_1 => (k0 cr nsr_1)))))
def sQ48 (N : Nat) : TSQ48 := GQ48 N (sQ76 N) (sQ16 N)
abbrev TSQ23 : Type := Int -> Int -> Bool -> List Int -> (Bool) -> (Bool -> List Int -> Bool) -> Bool
def GQ23 (N : Nat) (SQ48 : TSQ48) (x e : Int) (b : Bool) (b_1 : List Int) (k0 : Bool) (k1 : Bool -> List Int -> Bool) : Bool :=
 (cond (decide (e >= x)) k0 ((fits .i64 (x - e)) && (SQ48 (IntKind.wrap .u64 (x - e)) false b b_1 (fun cr nsr => (k1 cr nsr)))))
def sQ23 (N : Nat) : TSQ23 := GQ23 N (sQ48 N)
abbrev TSQ77 : Type := List Int -> List Int -> (List Int -> Bool) -> Bool
def st_z00_plus_0 (N : Nat) (SQ9 : TSQ9) (a_1 b_1 : List Int) (e0 : Int -> List Int -> Bool) : (Int × Int × List Int) -> ((Int × Int × List Int) -> Bool) -> Bool := fun v_ K => match v_ with
 | (carry, i, out) => (cond (decide (i < (((List.length a_1) : Nat) : Int))) ((inR i (List.length a_1)) && (cond (decide (i < (((List.length b_1) : Nat) : Int))) ((inR i (List.length b_1)) && ((inR i (List.length out)) && ((decide ((Int.toNat i) < (List.length out))) && ((fits .i64 (i + 1)) && (K ((Int.fdiv (IntKind.wrap .u64 ((IntKind.wrap .u64 ((IntKind.wrap .u64 (List.getD a_1 (Int.toNat i) 0)) + carry)) + (IntKind.wrap .u64 (List.getD b_1 (Int.toNat i) 0)))) (2 ^ 32)), (i + 1), (List.set out (Int.toNat i) (IntKind.wrap .u32 (IntKind.wrap .u64 ((IntKind.wrap .u64 ((IntKind.wrap .u64 (List.getD a_1 (Int.toNat i) 0)) + carry)) + (IntKind.wrap .u64 (List.getD b_1 (Int.toNat i) 0)))))))))))) ((inR i (List.length out)) && ((decide ((Int.toNat i) < (List.length out))) && ((fits .i64 (i + 1)) && (K ((Int.fdiv (IntKind.wrap .u64 ((IntKind.wrap .u64 (List.getD a_1 (Int.toNat i) 0)) + carry)) (2 ^ 32)), (i + 1), (List.set out (Int.toNat i) (IntKind.wrap .u32 (IntKind.wrap .u64 ((IntKind.wrap .u64 (List.getD a_1 (Int.toNat i) 0)) + carry))))))))))) (e0 carry out))
def GQ77 (N : Nat) (SQ9 : TSQ9) (a b : List Int) (k0 : List Int -> Bool) : Bool :=
 (cond (decide ((((List.length a) : Nat) : Int) < (((List.length b) : Nat) : Int))) ((fits .i64 ((((List.length b) : Nat) : Int) + 1)) && ((mkOk 4 ((((List.length b) : Nat) : Int) + 1) ((((List.length b) : Nat) : Int) + 1)) && (iterG N (st_z00_plus_0 N SQ9 b a (fun carry_1 out_1 => ((inR (((List.length b) : Nat) : Int) (List.length out_1)) && ((decide ((Int.toNat (((List.length b) : Nat) : Int)) < (List.length out_1))) && (SQ9 (List.set out_1 (Int.toNat (((List.length b) : Nat) : Int)) (IntKind.wrap .u32 carry_1)) (fun mr => ((decide ((0 + mr) <= (List.length (List.set out_1 (Int.toNat (((List.length b) : Nat) : Int)) (IntKind.wrap .u32 carry_1))))) && (k0 (List.take mr (List.drop 0 (List.set out_1 (Int.toNat (((List.length b) : Nat) : Int)) (IntKind.wrap .u32 carry_1)))))))))))) (0, 0, (List.replicate (Int.toNat ((((List.length b) : Nat) : Int) + 1)) (0 : Int)))))) ((fits .i64 ((((List.length a) : Nat) : Int) + 1)) && ((mkOk 4 ((((List.length a) : Nat) : Int) + 1) ((((List.length a) : Nat) : Int) + 1)) && (iterG N (st_z00_plus_0 N SQ9 a b (fun carry_2 out_2 => ((inR (((List.length a) : Nat) : Int) (List.length out_2)) && ((decide ((Int.toNat (((List.length a) : Nat) : Int)) < (List.length out_2))) && (SQ9 (List.set out_2 (Int.toNat (((List.length a) : Nat) : Int)) (IntKind.wrap .u32 carry_2)) (fun mr_1 => ((decide ((0 + mr_1) <= (List.length (List.set out_2 (Int.toNat (((List.length a) : Nat) : Int)) (IntKind.wrap .u32 carry_2))))) && (k0 (List.take mr_1 (List.drop 0 (List.set out_2 (Int.toNat (((List.length a) : Nat) : Int)) (IntKind.wrap .u32 carry_2)))))))))))) (0, 0, (List.replicate (Int.toNat ((((List.length a) : Nat) : Int) + 1)) (0 : Int)))))))
def sQ77 (N : Nat) : TSQ77 := GQ77 N (sQ9 N)
abbrev TSQ60 : Type := List Int -> List Int -> (Int -> Bool) -> Bool
def stQ101 (N : Nat) (a_1 b_1 : List Int) (e0 : Int -> Bool) (e1 : Bool) : (Int) -> ((Int) -> Bool) -> Bool := fun v_ K => match v_ with
 | i => (cond (decide (i >= 0)) ((inR i (List.length a_1)) && ((inR i (List.length b_1)) && (cond (decide ((List.getD a_1 (Int.toNat i) 0) < (List.getD b_1 (Int.toNat i) 0))) (e0 (-1)) ((inR i (List.length a_1)) && ((inR i (List.length b_1)) && (cond (decide ((List.getD a_1 (Int.toNat i) 0) > (List.getD b_1 (Int.toNat i) 0))) (e0 1) ((fits .i64 (i - 1)) && (K (i - 1))))))))) e1)
def GQ60 (N : Nat) (a b : List Int) (k0 : Int -> Bool) : Bool :=
 (cond ((((List.length a) : Nat) : Int) != (((List.length b) : Nat) : Int)) (cond (decide ((((List.length a) : Nat) : Int) < (((List.length b) : Nat) : Int))) (k0 (-1)) (k0 1)) ((fits .i64 ((((List.length a) : Nat) : Int) - 1)) && (iterG N (stQ101 N a b (fun t4 => (k0 t4)) (k0 0)) ((((List.length a) : Nat) : Int) - 1))))
def sQ60 (N : Nat) : TSQ60 := GQ60 N
abbrev TSQ68 : Type := List Int -> List Int -> (List Int -> Bool) -> Bool
def st_z00_minus_0 (N : Nat) (SQ9 : TSQ9) (a_1 b_1 : List Int) (e0 : List Int -> Bool) : (Int × Int × List Int) -> ((Int × Int × List Int) -> Bool) -> Bool := fun v_ K => match v_ with
 | (borrow, i, out) => (cond (decide (i < (((List.length a_1) : Nat) : Int))) (cond (decide (i < (((List.length b_1) : Nat) : Int))) ((inR i (List.length b_1)) && ((inR i (List.length a_1)) && (cond (decide ((IntKind.wrap .u64 (List.getD a_1 (Int.toNat i) 0)) < (IntKind.wrap .u64 (borrow + (IntKind.wrap .u64 (List.getD b_1 (Int.toNat i) 0)))))) ((inR i (List.length out)) && ((decide ((Int.toNat i) < (List.length out))) && ((fits .i64 (i + 1)) && (K (1, (i + 1), (List.set out (Int.toNat i) (IntKind.wrap .u32 (IntKind.wrap .u64 ((IntKind.wrap .u64 ((IntKind.wrap .u64 (List.getD a_1 (Int.toNat i) 0)) + 4294967296)) - (IntKind.wrap .u64 (borrow + (IntKind.wrap .u64 (List.getD b_1 (Int.toNat i) 0))))))))))))) ((inR i (List.length out)) && ((decide ((Int.toNat i) < (List.length out))) && ((fits .i64 (i + 1)) && (K (0, (i + 1), (List.set out (Int.toNat i) (IntKind.wrap .u32 (IntKind.wrap .u64 ((IntKind.wrap .u64 (List.getD a_1 (Int.toNat i) 0)) - (IntKind.wrap .u64 (borrow + (IntKind.wrap .u64 (List.getD b_1 (Int.toNat i) 0)))))))))))))))) ((inR i (List.length a_1)) && (cond (decide ((IntKind.wrap .u64 (List.getD a_1 (Int.toNat i) 0)) < borrow)) ((inR i (List.length out)) && ((decide ((Int.toNat i) < (List.length out))) && ((fits .i64 (i + 1)) && (K (1, (i + 1), (List.set out (Int.toNat i) (IntKind.wrap .u32 (IntKind.wrap .u64 ((IntKind.wrap .u64 ((IntKind.wrap .u64 (List.getD a_1 (Int.toNat i) 0)) + 4294967296)) - borrow))))))))) ((inR i (List.length out)) && ((decide ((Int.toNat i) < (List.length out))) && ((fits .i64 (i + 1)) && (K (0, (i + 1), (List.set out (Int.toNat i) (IntKind.wrap .u32 (IntKind.wrap .u64 ((IntKind.wrap .u64 (List.getD a_1 (Int.toNat i) 0)) - borrow)))))))))))) (e0 out))
def GQ68 (N : Nat) (SQ9 : TSQ9) (a b : List Int) (k0 : List Int -> Bool) : Bool :=
 ((mkOk 4 (((List.length a) : Nat) : Int) (((List.length a) : Nat) : Int)) && (iterG N (st_z00_minus_0 N SQ9 a b (fun out_1 => (SQ9 out_1 (fun mr => ((decide ((0 + mr) <= (List.length out_1))) && (k0 (List.take mr (List.drop 0 out_1)))))))) (0, 0, (List.replicate (Int.toNat (((List.length a) : Nat) : Int)) (0 : Int)))))
def sQ68 (N : Nat) : TSQ68 := GQ68 N (sQ9 N)
abbrev TSQ34 : Type := Bool -> Bool -> Bool -> List Int -> Bool -> List Int -> (Bool -> List Int -> Bool) -> Bool
def GQ34 (N : Nat) (SQ77 : TSQ77) (SQ16 : TSQ16) (SQ60 : TSQ60) (SQ68 : TSQ68) (turn b b_1 : Bool) (b_2 : List Int) (b_3 : Bool) (b_4 : List Int) (k0 : Bool -> List Int -> Bool) : Bool :=
 (cond (b_1 == (b_3 != turn)) (SQ77 b_2 b_4 (fun nsr => (SQ16 (b_3 != turn) nsr b (fun cr nsr_1 => (k0 cr nsr_1))))) (SQ60 b_2 b_4 (fun nr => (cond (decide (nr >= 0)) (SQ68 b_2 b_4 (fun nsr_2 => (SQ16 b_1 nsr_2 b (fun cr_1 nsr_3 => (k0 cr_1 nsr_3))))) (SQ68 b_4 b_2 (fun nsr_4 => (SQ16 (b_3 != turn) nsr_4 b (fun cr_2 s5 => (k0 cr_2 s5)))))))))
def sQ34 (N : Nat) : TSQ34 := GQ34 N (sQ77 N) (sQ16 N) (sQ60 N) (sQ68 N)
abbrev TSQ28 : Type := Bool -> Bool -> List Int -> Bool -> List Int -> (Bool -> List Int -> Bool) -> Bool
def GQ28 (N : Nat) (SQ34 : TSQ34) (b b_1 : Bool) (b_2 : List Int) (b_3 : Bool) (b_4 : List Int) (k0 : Bool -> List Int -> Bool) : Bool :=
 (SQ34 false b b_1 b_2 b_3 b_4 (fun cr nsr => (k0 cr nsr)))
def sQ28 (N : Nat) : TSQ28 := GQ28 N (sQ34 N)
abbrev TSQ0 : Type := Int -> Int -> Bool -> List Int -> Bool -> List Int -> (Bool) -> (Bool) -> (Int -> Bool -> List Int -> Bool) -> Bool
def GQ0 (N : Nat) (SQ36 : TSQ36) (SQ23 : TSQ23) (SQ28 : TSQ28) (x y : Int) (b : Bool) (b_1 : List Int) (b_2 : Bool) (b_3 : List Int) (k0 k1 : Bool) (k2 : Int -> Bool -> List Int -> Bool) : Bool :=
 (SQ36 b b_1 (fun nr => (cond (nr == 0) k0 (SQ36 b_2 b_3 (fun nr_1 => (cond (nr_1 == 0) k1 (SQ23 x (imm false x y) b b_1 (SQ23 y (imm false x y) b_2 b_3 (SQ28 false b b_1 b_2 b_3 (fun cr nsr => (k2 (imm false x y) cr nsr))) (fun cr_1 nsr_1 => (SQ28 false b b_1 cr_1 nsr_1 (fun cr_2 nsr_2 => (k2 (imm false x y) cr_2 nsr_2))))) (fun cr_3 nsr_3 => (SQ23 y (imm false x y) b_2 b_3 (SQ28 false cr_3 nsr_3 b_2 b_3 (fun cr_4 nsr_4 => (k2 (imm false x y) cr_4 nsr_4))) (fun cr_5 s5 => (SQ28 false cr_3 nsr_3 cr_5 s5 (fun cr_6 s6 => (k2 (imm false x y) cr_6 s6)))))))))))))
def sQ0 (N : Nat) : TSQ0 := GQ0 N (sQ36 N) (sQ23 N) (sQ28 N)
abbrev TSQ74 : Type := Fl -> (Bool -> Bool) -> Bool
def GQ74 (N : Nat) (f : Fl) (k0 : Bool -> Bool) : Bool :=
 (k0 (!feq f f))
def sQ74 (N : Nat) : TSQ74 := GQ74 N
abbrev TSQ38 : Type := Fl -> (Fl -> Int -> Bool) -> Bool
def GQ38 (N : Nat) (S_m_Abs : TS_m_Abs) (x : Fl) (k0 : Fl -> Int -> Bool) : Bool :=
 (S_m_Abs x (fun xr => (cond (flt xr (some 4503599627370496)) (k0 (fmul x (some 4841369599423283200)) (-52)) (k0 x 0))))
def sQ38 (N : Nat) : TSQ38 := GQ38 N (s_m_Abs N)
abbrev TSQ51 : Type := Fl -> Fl -> (Fl -> Bool) -> Bool
def GQ51 (N : Nat) (SQ13 : TSQ13) (SQ37 : TSQ37) (f sign : Fl) (k0 : Fl -> Bool) : Bool :=
 (SQ13 f (fun nr => (SQ13 sign (fun nr_1 => (SQ37 (bitsN .or .u64 (bitsN .andNot .u64 nr 9223372036854775808) (bitsN .and .u64 nr_1 9223372036854775808)) (fun xr => (k0 xr)))))))
def sQ51 (N : Nat) : TSQ51 := GQ51 N (sQ13 N) (sQ37 N)
abbrev TS_m_Inf : Type := Int -> (Fl -> Bool) -> Bool
def J_m_Inf_0 (N : Nat) (SQ37 : TSQ37) (sign v : Int) (k0 : Fl -> Bool) : Bool :=
 (SQ37 v (fun xr => (k0 xr)))
def G_m_Inf (N : Nat) (SQ37 : TSQ37) (sign : Int) (k0 : Fl -> Bool) : Bool :=
 (cond (decide (sign >= 0)) (J_m_Inf_0 N SQ37 sign 9218868437227405312 k0) (J_m_Inf_0 N SQ37 sign 18442240474082181120 k0))
def s_m_Inf (N : Nat) : TS_m_Inf := G_m_Inf N (sQ37 N)
abbrev TSQ83 : Type := Fl -> Int -> (Fl -> Bool) -> Bool
def JQ104 (N : Nat) (SQ63 : TSQ63) (SQ74 : TSQ74) (SQ38 : TSQ38) (SQ13 : TSQ13) (SQ51 : TSQ51) (S_m_Inf : TS_m_Inf) (SQ37 : TSQ37) (frac : Fl) (exp exp_1 x : Int) (m : Fl) (k0 : Fl -> Bool) : Bool :=
 ((fits .i64 (exp_1 + 1023)) && (SQ37 (bitsN .or .u64 (bitsN .andNot .u64 x 9218868437227405312) (IntKind.wrap .u64 ((IntKind.wrap .u64 (exp_1 + 1023)) * 2 ^ 52))) (fun xr_4 => (k0 (fmul m xr_4)))))
def GQ83 (N : Nat) (SQ63 : TSQ63) (SQ74 : TSQ74) (SQ38 : TSQ38) (SQ13 : TSQ13) (SQ51 : TSQ51) (S_m_Inf : TS_m_Inf) (SQ37 : TSQ37) (frac : Fl) (exp : Int) (k0 : Fl -> Bool) : Bool :=
 (cond (feq frac (some 0)) (k0 frac) (SQ63 frac 0 (fun cr => (cond (cr == false) (SQ74 frac (fun cr_1 => (cond cr_1 (k0 frac) (SQ38 frac (fun xr nr => ((fits .i64 (exp + nr)) && (SQ13 xr (fun nr_1 => ((fits .i64 (Int.fdiv nr_1 (2 ^ 52))) && ((fits .i64 ((bitsN .and .i64 (Int.fdiv nr_1 (2 ^ 52)) 2047) - 1023)) && ((fits .i64 ((exp + nr) + ((bitsN .and .i64 (Int.fdiv nr_1 (2 ^ 52)) 2047) - 1023))) && (cond (decide (((exp + nr) + ((bitsN .and .i64 (Int.fdiv nr_1 (2 ^ 52)) 2047) - 1023)) < (-1075))) (SQ51 (some 0) xr (fun xr_1 => (k0 xr_1))) (cond (decide (((exp + nr) + ((bitsN .and .i64 (Int.fdiv nr_1 (2 ^ 52)) 2047) - 1023)) > 1023)) (cond (flt xr (some 0)) (S_m_Inf (-1) (fun xr_2 => (k0 xr_2))) (S_m_Inf 1 (fun xr_3 => (k0 xr_3)))) (cond (decide (((exp + nr) + ((bitsN .and .i64 (Int.fdiv nr_1 (2 ^ 52)) 2047) - 1023)) < (-1022))) ((fits .i64 (((exp + nr) + ((bitsN .and .i64 (Int.fdiv nr_1 (2 ^ 52)) 2047) - 1023)) + 53)) && (JQ104 N SQ63 SQ74 SQ38 SQ13 SQ51 S_m_Inf SQ37 frac exp (((exp + nr) + ((bitsN .and .i64 (Int.fdiv nr_1 (2 ^ 52)) 2047) - 1023)) + 53) nr_1 (some 4368491638549381120) k0)) (JQ104 N SQ63 SQ74 SQ38 SQ13 SQ51 S_m_Inf SQ37 frac exp ((exp + nr) + ((bitsN .and .i64 (Int.fdiv nr_1 (2 ^ 52)) 2047) - 1023)) nr_1 (some 4607182418800017408) k0))))))))))))))) (k0 frac)))))
def sQ83 (N : Nat) : TSQ83 := GQ83 N (sQ63 N) (sQ74 N) (sQ38 N) (sQ13 N) (sQ51 N) (s_m_Inf N) (sQ37 N)
abbrev TSQ18 : Type := Fl -> Int -> (Fl -> Bool) -> Bool
def GQ18 (N : Nat) (SQ83 : TSQ83) (frac : Fl) (exp : Int) (k0 : Fl -> Bool) : Bool :=
 (SQ83 frac exp (fun xr => (k0 xr)))
def sQ18 (N : Nat) : TSQ18 := GQ18 N (sQ83 N)
abbrev TSQ70 : Type := Int -> Int -> (Int -> Int -> Bool) -> Bool
def st_z01_odd_0 (N : Nat) (e0 : Int -> Int -> Bool) : (Int × Int) -> ((Int × Int) -> Bool) -> Bool := fun v_ K => match v_ with
 | (m_1, e_1) => (cond ((Int.tmod m_1 2) == 0) ((fits .i64 (e_1 + 1)) && (K ((IntKind.wrap .u64 (Int.tdiv m_1 2)), (e_1 + 1)))) (e0 m_1 e_1))
def GQ70 (N : Nat) (m e : Int) (k0 : Int -> Int -> Bool) : Bool :=
 (cond (m == 0) (k0 0 0) (iterG N (st_z01_odd_0 N (fun m_2 e_2 => (k0 m_2 e_2))) (m, e)))
def sQ70 (N : Nat) : TSQ70 := GQ70 N
abbrev TSQ67 : Type := Fl -> (Bool -> Int -> Int -> Int -> Bool) -> Bool
def JQ100 (N : Nat) (SQ44 : TSQ44) (SQ70 : TSQ70) (x : Fl) (neg : Bool) (e f : Int) (k0 : Bool -> Int -> Int -> Int -> Bool) : Bool :=
 ((fits .i64 (e - 1074)) && (SQ70 f (e - 1074) (fun nr_2 nr_3 => (k0 neg nr_2 nr_3 0))))
def GQ67 (N : Nat) (SQ44 : TSQ44) (SQ70 : TSQ70) (x : Fl) (k0 : Bool -> Int -> Int -> Int -> Bool) : Bool :=
 (SQ44 x (fun cr nr nr_1 => (cond (nr == 2047) (k0 false 0 0 4) (cond (decide (nr > 0)) ((fits .i64 (nr - 1)) && (JQ100 N SQ44 SQ70 x cr (nr - 1) (IntKind.wrap .u64 (nr_1 + 4503599627370496)) k0)) (JQ100 N SQ44 SQ70 x cr nr nr_1 k0)))))
def sQ67 (N : Nat) : TSQ67 := GQ67 N (sQ44 N) (sQ70 N)
abbrev TSQ30 : Type := Int -> Bool -> (Bool -> List Int -> Bool) -> Bool
def GQ30 (N : Nat) (SQ45 : TSQ45) (SQ16 : TSQ16) (n : Int) (b : Bool) (k0 : Bool -> List Int -> Bool) : Bool :=
 (SQ45 n (fun nsr => (SQ16 false nsr b (fun cr nsr_1 => (k0 cr nsr_1)))))
def sQ30 (N : Nat) : TSQ30 := GQ30 N (sQ45 N) (sQ16 N)
abbrev TSQ58 : Type := Bool -> Bool -> List Int -> List Int -> (Bool -> Nat -> Nat -> Bool) -> Bool
def GQ58 (N : Nat) (SQ9 : TSQ9) (neg b : Bool) (b_1 b_2 : List Int) (k0 : Bool -> Nat -> Nat -> Bool) : Bool :=
 (SQ9 b_2 (fun mr => (cond (neg == true) (k0 (decide (((mr : Nat) : Int) > 0)) 0 mr) (k0 false 0 mr))))
def sQ58 (N : Nat) : TSQ58 := GQ58 N (sQ9 N)
abbrev TSQ55 : Type := Bool -> List Int -> (Bool -> List Int -> Bool) -> Bool
def GQ55 (N : Nat) (SQ58 : TSQ58) (b : Bool) (b_1 : List Int) (k0 : Bool -> List Int -> Bool) : Bool :=
 ((decide ((List.length ([] ++ b_1)) * 4 <= 140737488355328)) && (SQ58 (!b) b b_1 ([] ++ b_1) (fun cr mr mr_1 => ((decide ((mr + mr_1) <= (List.length ([] ++ b_1)))) && (k0 cr (List.take mr_1 (List.drop mr ([] ++ b_1))))))))
def sQ55 (N : Nat) : TSQ55 := GQ55 N (sQ58 N)
abbrev TSQ27 : Type := Fl -> (Int -> Bool -> List Int -> Bool) -> Bool
def GQ27 (N : Nat) (SQ67 : TSQ67) (SQ30 : TSQ30) (SQ55 : TSQ55) (x : Fl) (k0 : Int -> Bool -> List Int -> Bool) : Bool :=
 (SQ67 x (fun cr nr nr_1 nr_2 => (SQ30 nr false (fun cr_1 nsr => (cond cr (SQ55 cr_1 nsr (fun cr_2 nsr_1 => (k0 nr_1 cr_2 nsr_1))) (k0 nr_1 cr_1 nsr))))))
def sQ27 (N : Nat) : TSQ27 := GQ27 N (sQ67 N) (sQ30 N) (sQ55 N)
abbrev TSQ65 : Type := List Int -> List Int -> (List Int -> Bool) -> Bool
def st_z00_times_2 (N : Nat) (SQ9 : TSQ9) (a_2 b_2 : List Int) (i_1 : Int) (e0 : Int -> List Int -> Bool) : (Int × Int × List Int) -> ((Int × Int × List Int) -> Bool) -> Bool := fun v_ K => match v_ with
 | (carry, k_, out_1) => (cond (decide (k_ < (((List.length b_2) : Nat) : Int))) ((inR i_1 (List.length a_2)) && ((inR k_ (List.length b_2)) && ((fits .i64 (i_1 + k_)) && ((inR (i_1 + k_) (List.length out_1)) && ((decide ((Int.toNat (i_1 + k_)) < (List.length out_1))) && ((fits .i64 (i_1 + k_)) && ((inR (i_1 + k_) (List.length out_1)) && ((decide ((Int.toNat (i_1 + k_)) < (List.length out_1))) && ((fits .i64 (k_ + 1)) && (K ((Int.fdiv (IntKind.wrap .u64 ((IntKind.wrap .u64 ((IntKind.wrap .u64 ((IntKind.wrap .u64 (List.getD a_2 (Int.toNat i_1) 0)) * (IntKind.wrap .u64 (List.getD b_2 (Int.toNat k_) 0)))) + (IntKind.wrap .u64 (List.getD out_1 (Int.toNat (i_1 + k_)) 0)))) + carry)) (2 ^ 32)), (k_ + 1), (List.set out_1 (Int.toNat (i_1 + k_)) (IntKind.wrap .u32 (IntKind.wrap .u64 ((IntKind.wrap .u64 ((IntKind.wrap .u64 ((IntKind.wrap .u64 (List.getD a_2 (Int.toNat i_1) 0)) * (IntKind.wrap .u64 (List.getD b_2 (Int.toNat k_) 0)))) + (IntKind.wrap .u64 (List.getD out_1 (Int.toNat (i_1 + k_)) 0)))) + carry))))))))))))))) (e0 carry out_1))
def st_z00_times_0 (N : Nat) (SQ9 : TSQ9) (a_1 b_1 : List Int) (e0 : List Int -> Bool) : (Int × List Int) -> ((Int × List Int) -> Bool) -> Bool := fun v_ K => match v_ with
 | (i, out) => (cond (decide (i < (((List.length a_1) : Nat) : Int))) (iterG N (st_z00_times_2 N SQ9 a_1 b_1 i (fun carry_1 out_2 => ((fits .i64 (i + (((List.length b_1) : Nat) : Int))) && ((inR (i + (((List.length b_1) : Nat) : Int)) (List.length out_2)) && ((decide ((Int.toNat (i + (((List.length b_1) : Nat) : Int))) < (List.length out_2))) && ((fits .i64 (i + 1)) && (K ((i + 1), (List.set out_2 (Int.toNat (i + (((List.length b_1) : Nat) : Int))) (IntKind.wrap .u32 carry_1)))))))))) (0, 0, out)) (e0 out))
def GQ65 (N : Nat) (SQ9 : TSQ9) (a b : List Int) (k0 : List Int -> Bool) : Bool :=
 ((fits .i64 ((((List.length a) : Nat) : Int) + (((List.length b) : Nat) : Int))) && ((mkOk 4 ((((List.length a) : Nat) : Int) + (((List.length b) : Nat) : Int)) ((((List.length a) : Nat) : Int) + (((List.length b) : Nat) : Int))) && (iterG N (st_z00_times_0 N SQ9 a b (fun out_3 => (SQ9 out_3 (fun mr => ((decide ((0 + mr) <= (List.length out_3))) && (k0 (List.take mr (List.drop 0 out_3)))))))) (0, (List.replicate (Int.toNat ((((List.length a) : Nat) : Int) + (((List.length b) : Nat) : Int))) (0 : Int))))))
def sQ65 (N : Nat) : TSQ65 := GQ65 N (sQ9 N)
abbrev TSQ33 : Type := Bool -> Bool -> List Int -> Bool -> List Int -> (Bool -> List Int -> Bool) -> Bool
def GQ33 (N : Nat) (SQ65 : TSQ65) (SQ16 : TSQ16) (b b_1 : Bool) (b_2 : List Int) (b_3 : Bool) (b_4 : List Int) (k0 : Bool -> List Int -> Bool) : Bool :=
 (SQ65 b_2 b_4 (fun nsr => (SQ16 (b_1 != b_3) nsr b (fun cr nsr_1 => (k0 cr nsr_1)))))
def sQ33 (N : Nat) : TSQ33 := GQ33 N (sQ65 N) (sQ16 N)
abbrev TSQ2 : Type := Int -> Int -> Bool -> List Int -> Bool -> List Int -> (Int -> Bool -> List Int -> Bool) -> Bool
def GQ2 (N : Nat) (SQ33 : TSQ33) (x y : Int) (b : Bool) (b_1 : List Int) (b_2 : Bool) (b_3 : List Int) (k0 : Int -> Bool -> List Int -> Bool) : Bool :=
 (SQ33 false b b_1 b_2 b_3 (fun cr nsr => ((fits .i64 (x + y)) && (k0 (x + y) cr nsr))))
def sQ2 (N : Nat) : TSQ2 := GQ2 N (sQ33 N)
abbrev TSQ1 : Type := Int -> Int -> Bool -> List Int -> Bool -> List Int -> (Int -> Bool) -> Bool
def GQ1 (N : Nat) (SQ3 : TSQ3) (SQ0 : TSQ0) (SQ36 : TSQ36) (x y : Int) (b : Bool) (b_1 : List Int) (b_2 : Bool) (b_3 : List Int) (k0 : Int -> Bool) : Bool :=
 (SQ3 y b_2 b_3 (fun cr nsr => (SQ0 x y b b_1 cr nsr (SQ36 cr nsr (fun nr => (k0 nr))) (SQ36 b b_1 (fun nr_1 => (k0 nr_1))) (fun nr_2 cr_1 nsr_1 => (SQ36 cr_1 nsr_1 (fun nr_3 => (k0 nr_3)))))))
def sQ1 (N : Nat) : TSQ1 := GQ1 N (sQ3 N) (sQ0 N) (sQ36 N)
abbrev TSQ14 : Type := List Int -> Int -> List Int -> List Int -> Int -> Int -> (Bool -> Bool) -> Bool
def stQ43 (N : Nat) (SQ6 : TSQ6) (SQ8 : TSQ8) (SQ4 : TSQ4) (SQ7 : TSQ7) (S_info_UpdateRoot : TS_info_UpdateRoot) (SQ5 : TSQ5) (SQ13 : TSQ13) (SQ17 : TSQ17) (SQ12 : TSQ12) (SQ11 : TSQ11) (SQ10 : TSQ10) (SQ3 : TSQ3) (SQ0 : TSQ0) (SQ18 : TSQ18) (SQ27 : TSQ27) (SQ2 : TSQ2) (SQ1 : TSQ1) (n_1 o o_1 p_2 p_3 one : Int) (b3 b4 : List Fl) (b5 : Bool) (b5_1 : List Int) (e0 : Bool) : (Int) -> ((Int) -> Bool) -> Bool := fun v_ K => match v_ with
 | i => (cond (decide (i < n_1)) ((fits .i64 (i * n_1)) && ((fits .i64 ((i * n_1) + i)) && ((inR ((i * n_1) + i) (List.length b3)) && ((decide ((Int.toNat ((i * n_1) + i)) < (List.length b3))) && (SQ18 (some 4607182418800017408) (-900) (fun xr_14 => (cond (flt (fmul (List.getD b3 (Int.toNat ((i * n_1) + i)) none) (List.getD b3 (Int.toNat ((i * n_1) + i)) none)) xr_14) ((fits .i64 (i + 1)) && (K (i + 1))) ((fits .i64 (i * n_1)) && ((fits .i64 ((i * n_1) + i)) && false))))))))) e0)
def stQ66 (N : Nat) (SQ6 : TSQ6) (SQ8 : TSQ8) (SQ4 : TSQ4) (SQ7 : TSQ7) (S_info_UpdateRoot : TS_info_UpdateRoot) (SQ5 : TSQ5) (SQ13 : TSQ13) (SQ17 : TSQ17) (SQ12 : TSQ12) (SQ11 : TSQ11) (SQ10 : TSQ10) (SQ3 : TSQ3) (SQ0 : TSQ0) (SQ18 : TSQ18) (SQ27 : TSQ27) (SQ2 : TSQ2) (SQ1 : TSQ1) (n_2 o_2 o_3 p_6 p_7 one_1 : Int) (b3_1 b4_1 b5_2 b6 : List Fl) (b7_1 : Bool) (b7_2 : List Int) (e0 : Bool -> Bool) (e1 : Bool) : (Int) -> ((Int) -> Bool) -> Bool := fun v_ K => match v_ with
 | i_1 => (cond (decide (i_1 < n_2)) ((fits .i64 (i_1 * n_2)) && ((fits .i64 ((i_1 * n_2) + i_1)) && ((inR ((i_1 * n_2) + i_1) (List.length b3_1)) && ((decide ((Int.toNat ((i_1 * n_2) + i_1)) < (List.length b3_1))) && (SQ18 (some 4607182418800017408) (-900) (fun xr_15 => (cond (flt (fmul (List.getD b3_1 (Int.toNat ((i_1 * n_2) + i_1)) none) (List.getD b3_1 (Int.toNat ((i_1 * n_2) + i_1)) none)) xr_15) ((fits .i64 (i_1 + 1)) && (K (i_1 + 1))) ((fits .i64 (i_1 * n_2)) && ((fits .i64 ((i_1 * n_2) + i_1)) && ((inR ((i_1 * n_2) + i_1) (List.length b5_2)) && ((decide ((Int.toNat ((i_1 * n_2) + i_1)) < (List.length b5_2))) && (SQ27 (List.getD b5_2 (Int.toNat ((i_1 * n_2) + i_1)) none) (fun nr_21 c14 s8 => (SQ27 (List.getD b3_1 (Int.toNat ((i_1 * n_2) + i_1)) none) (fun nr_22 c15 s9 => (SQ2 nr_22 one_1 c15 s9 b7_1 b7_2 (fun n23 c16 s10 => (SQ1 nr_21 n23 c14 s8 c16 s10 (fun n24 => (cond (decide (n24 < 0)) (e0 false) ((fits .i64 (i_1 + 1)) && (K (i_1 + 1))))))))))))))))))))))) e1)
def JQ86 (N : Nat) (SQ6 : TSQ6) (SQ8 : TSQ8) (SQ4 : TSQ4) (SQ7 : TSQ7) (S_info_UpdateRoot : TS_info_UpdateRoot) (SQ5 : TSQ5) (SQ13 : TSQ13) (SQ17 : TSQ17) (SQ12 : TSQ12) (SQ11 : TSQ11) (SQ10 : TSQ10) (SQ3 : TSQ3) (SQ0 : TSQ0) (SQ18 : TSQ18) (SQ27 : TSQ27) (SQ2 : TSQ2) (SQ1 : TSQ1) (z : List Int) (n : Int) (r w_0 : List Int) (w_1 w_2 : Int) (k0 : Bool -> Bool) : Bool :=
 (SQ4 (fun c29 => (k0 c29)))
def JQ91 (N : Nat) (SQ6 : TSQ6) (SQ8 : TSQ8) (SQ4 : TSQ4) (SQ7 : TSQ7) (S_info_UpdateRoot : TS_info_UpdateRoot) (SQ5 : TSQ5) (SQ13 : TSQ13) (SQ17 : TSQ17) (SQ12 : TSQ12) (SQ11 : TSQ11) (SQ10 : TSQ10) (SQ3 : TSQ3) (SQ0 : TSQ0) (SQ18 : TSQ18) (SQ27 : TSQ27) (SQ2 : TSQ2) (SQ1 : TSQ1) (z : List Int) (n : Int) (r w_0 : List Int) (w_1 w_2 : Int) (b1_5 b2_5 b9 b10 : List Fl) (p_10 p_11 : Int) (k0 : Bool -> Bool) : Bool :=
 (cond ((p_10 != n) == false) (cond ((p_11 != n) == false) ((fits .i64 (n * n)) && (cond ((((List.length b9) : Nat) : Int) != (n * n)) (k0 false) (SQ11 1 (fun n33 cr_25 s15 => (SQ10 (-51) (fun c26 s16 => (SQ3 (-51) c26 s16 (fun c27 s17 => (SQ0 n33 (-51) cr_25 s15 c27 s17 (iterG N (stQ66 N SQ6 SQ8 SQ4 SQ7 S_info_UpdateRoot SQ5 SQ13 SQ17 SQ12 SQ11 SQ10 SQ3 SQ0 SQ18 SQ27 SQ2 SQ1 n n n p_10 p_11 (-51) b1_5 b2_5 b9 b10 c27 s17 (fun t8_3 => (k0 t8_3)) (JQ86 N SQ6 SQ8 SQ4 SQ7 S_info_UpdateRoot SQ5 SQ13 SQ17 SQ12 SQ11 SQ10 SQ3 SQ0 SQ18 SQ27 SQ2 SQ1 z n r w_0 w_1 w_2 k0)) 0) (iterG N (stQ66 N SQ6 SQ8 SQ4 SQ7 S_info_UpdateRoot SQ5 SQ13 SQ17 SQ12 SQ11 SQ10 SQ3 SQ0 SQ18 SQ27 SQ2 SQ1 n n n p_10 p_11 n33 b1_5 b2_5 b9 b10 cr_25 s15 (fun t8_4 => (k0 t8_4)) (JQ86 N SQ6 SQ8 SQ4 SQ7 S_info_UpdateRoot SQ5 SQ13 SQ17 SQ12 SQ11 SQ10 SQ3 SQ0 SQ18 SQ27 SQ2 SQ1 z n r w_0 w_1 w_2 k0)) 0) (fun n34 c28 s18 => (iterG N (stQ66 N SQ6 SQ8 SQ4 SQ7 S_info_UpdateRoot SQ5 SQ13 SQ17 SQ12 SQ11 SQ10 SQ3 SQ0 SQ18 SQ27 SQ2 SQ1 n n n p_10 p_11 n34 b1_5 b2_5 b9 b10 c28 s18 (fun t8_5 => (k0 t8_5)) (JQ86 N SQ6 SQ8 SQ4 SQ7 S_info_UpdateRoot SQ5 SQ13 SQ17 SQ12 SQ11 SQ10 SQ3 SQ0 SQ18 SQ27 SQ2 SQ1 z n r w_0 w_1 w_2 k0)) 0))))))))))) (k0 false)) (k0 false))
def JQ85 (N : Nat) (SQ6 : TSQ6) (SQ8 : TSQ8) (SQ4 : TSQ4) (SQ7 : TSQ7) (S_info_UpdateRoot : TS_info_UpdateRoot) (SQ5 : TSQ5) (SQ13 : TSQ13) (SQ17 : TSQ17) (SQ12 : TSQ12) (SQ11 : TSQ11) (SQ10 : TSQ10) (SQ3 : TSQ3) (SQ0 : TSQ0) (SQ18 : TSQ18) (SQ27 : TSQ27) (SQ2 : TSQ2) (SQ1 : TSQ1) (z : List Int) (n : Int) (r w_0 : List Int) (w_1 w_2 : Int) (k0 : Bool -> Bool) : Bool :=
 (SQ4 (fun c24 => (k0 c24)))
def JQ90 (N : Nat) (SQ6 : TSQ6) (SQ8 : TSQ8) (SQ4 : TSQ4) (SQ7 : TSQ7) (S_info_UpdateRoot : TS_info_UpdateRoot) (SQ5 : TSQ5) (SQ13 : TSQ13) (SQ17 : TSQ17) (SQ12 : TSQ12) (SQ11 : TSQ11) (SQ10 : TSQ10) (SQ3 : TSQ3) (SQ0 : TSQ0) (SQ18 : TSQ18) (SQ27 : TSQ27) (SQ2 : TSQ2) (SQ1 : TSQ1) (z : List Int) (n : Int) (r w_0 : List Int) (w_1 w_2 : Int) (b1_4 b2_4 : List Fl) (p_8 p_9 : Int) (k0 : Bool -> Bool) : Bool :=
 (cond ((p_8 != n) == false) (cond ((p_9 != n) == false) ((fits .i64 (n * n)) && (cond (0 != (n * n)) (k0 false) (SQ11 1 (fun n31 cr_20 s11 => (SQ10 (-51) (fun cr_21 s12 => (SQ3 (-51) cr_21 s12 (fun cr_22 s13 => (SQ0 n31 (-51) cr_20 s11 cr_22 s13 (iterG N (stQ43 N SQ6 SQ8 SQ4 SQ7 S_info_UpdateRoot SQ5 SQ13 SQ17 SQ12 SQ11 SQ10 SQ3 SQ0 SQ18 SQ27 SQ2 SQ1 n n n p_8 p_9 (-51) b1_4 b2_4 cr_22 s13 (JQ85 N SQ6 SQ8 SQ4 SQ7 S_info_UpdateRoot SQ5 SQ13 SQ17 SQ12 SQ11 SQ10 SQ3 SQ0 SQ18 SQ27 SQ2 SQ1 z n r w_0 w_1 w_2 k0)) 0) (iterG N (stQ43 N SQ6 SQ8 SQ4 SQ7 S_info_UpdateRoot SQ5 SQ13 SQ17 SQ12 SQ11 SQ10 SQ3 SQ0 SQ18 SQ27 SQ2 SQ1 n n n p_8 p_9 n31 b1_4 b2_4 cr_20 s11 (JQ85 N SQ6 SQ8 SQ4 SQ7 S_info_UpdateRoot SQ5 SQ13 SQ17 SQ12 SQ11 SQ10 SQ3 SQ0 SQ18 SQ27 SQ2 SQ1 z n r w_0 w_1 w_2 k0)) 0) (fun n32 c23 s14 => (iterG N (stQ43 N SQ6 SQ8 SQ4 SQ7 S_info_UpdateRoot SQ5 SQ13 SQ17 SQ12 SQ11 SQ10 SQ3 SQ0 SQ18 SQ27 SQ2 SQ1 n n n p_8 p_9 n32 b1_4 b2_4 c23 s14 (JQ85 N SQ6 SQ8 SQ4 SQ7 S_info_UpdateRoot SQ5 SQ13 SQ17 SQ12 SQ11 SQ10 SQ3 SQ0 SQ18 SQ27 SQ2 SQ1 z n r w_0 w_1 w_2 k0)) 0))))))))))) (k0 false)) (k0 false))
def JQ82 (N : Nat) (SQ6 : TSQ6) (SQ8 : TSQ8) (SQ4 : TSQ4) (SQ7 : TSQ7) (S_info_UpdateRoot : TS_info_UpdateRoot) (SQ5 : TSQ5) (SQ13 : TSQ13) (SQ17 : TSQ17) (SQ12 : TSQ12) (SQ11 : TSQ11) (SQ10 : TSQ10) (SQ3 : TSQ3) (SQ0 : TSQ0) (SQ18 : TSQ18) (SQ27 : TSQ27) (SQ2 : TSQ2) (SQ1 : TSQ1) (z : List Int) (n : Int) (r w_0 : List Int) (w_1 w_2 : Int) (b1_3 b2_3 : List Fl) (k0 : Bool -> Bool) : Bool :=
 (SQ12 w_0 (fun xsr_7 => (SQ7 w_1 (fun xr_16 => (SQ7 w_2 (fun xr_17 => (S_info_UpdateRoot n n b1_3 b2_3 xsr_7 xr_16 xr_17 (fun n25 n26 x18 n27 => (cond (n27 != 0) (SQ4 (fun c18 => (k0 c18))) (JQ90 N SQ6 SQ8 SQ4 SQ7 S_info_UpdateRoot SQ5 SQ13 SQ17 SQ12 SQ11 SQ10 SQ3 SQ0 SQ18 SQ27 SQ2 SQ1 z n r w_0 w_1 w_2 b1_3 b2_3 n25 n26 k0))) (fun n28 n29 x19 n30 xsr_8 xsr_9 => (cond (n30 != 0) (SQ4 (fun c19 => (k0 c19))) (JQ91 N SQ6 SQ8 SQ4 SQ7 S_info_UpdateRoot SQ5 SQ13 SQ17 SQ12 SQ11 SQ10 SQ3 SQ0 SQ18 SQ27 SQ2 SQ1 z n r w_0 w_1 w_2 b1_3 b2_3 xsr_8 xsr_9 n28 n29 k0))))))))))
def JQ81 (N : Nat) (SQ6 : TSQ6) (SQ8 : TSQ8) (SQ4 : TSQ4) (SQ7 : TSQ7) (S_info_UpdateRoot : TS_info_UpdateRoot) (SQ5 : TSQ5) (SQ13 : TSQ13) (SQ17 : TSQ17) (SQ12 : TSQ12) (SQ11 : TSQ11) (SQ10 : TSQ10) (SQ3 : TSQ3) (SQ0 : TSQ0) (SQ18 : TSQ18) (SQ27 : TSQ27) (SQ2 : TSQ2) (SQ1 : TSQ1) (z : List Int) (n : Int) (r w_0 : List Int) (w_1 w_2 : Int) (k0 : Bool -> Bool) : Bool :=
 (SQ4 (fun c17 => (k0 c17)))
def JQ80 (N : Nat) (SQ6 : TSQ6) (SQ8 : TSQ8) (SQ4 : TSQ4) (SQ7 : TSQ7) (S_info_UpdateRoot : TS_info_UpdateRoot) (SQ5 : TSQ5) (SQ13 : TSQ13) (SQ17 : TSQ17) (SQ12 : TSQ12) (SQ11 : TSQ11) (SQ10 : TSQ10) (SQ3 : TSQ3) (SQ0 : TSQ0) (SQ18 : TSQ18) (SQ27 : TSQ27) (SQ2 : TSQ2) (SQ1 : TSQ1) (z : List Int) (n : Int) (r w_0 : List Int) (w_1 w_2 : Int) (b1_2 b2_2 b7 b8 : List Fl) (p_4 p_5 : Int) (k0 : Bool -> Bool) : Bool :=
 (cond ((p_4 != n) == false) (cond ((p_5 != n) == false) ((fits .i64 (n * n)) && (cond ((((List.length b7) : Nat) : Int) != (n * n)) (k0 false) (SQ11 1 (fun n19 c10 nsr_4 => (SQ10 (-51) (fun c11 s5 => (SQ3 (-51) c11 s5 (fun c12 s6 => (SQ0 n19 (-51) c10 nsr_4 c12 s6 (iterG N (stQ66 N SQ6 SQ8 SQ4 SQ7 S_info_UpdateRoot SQ5 SQ13 SQ17 SQ12 SQ11 SQ10 SQ3 SQ0 SQ18 SQ27 SQ2 SQ1 n n n p_4 p_5 (-51) b1_2 b2_2 b7 b8 c12 s6 (fun t8 => (k0 t8)) (JQ81 N SQ6 SQ8 SQ4 SQ7 S_info_UpdateRoot SQ5 SQ13 SQ17 SQ12 SQ11 SQ10 SQ3 SQ0 SQ18 SQ27 SQ2 SQ1 z n r w_0 w_1 w_2 k0)) 0) (iterG N (stQ66 N SQ6 SQ8 SQ4 SQ7 S_info_UpdateRoot SQ5 SQ13 SQ17 SQ12 SQ11 SQ10 SQ3 SQ0 SQ18 SQ27 SQ2 SQ1 n n n p_4 p_5 n19 b1_2 b2_2 b7 b8 c10 nsr_4 (fun t8_1 => (k0 t8_1)) (JQ81 N SQ6 SQ8 SQ4 SQ7 S_info_UpdateRoot SQ5 SQ13 SQ17 SQ12 SQ11 SQ10 SQ3 SQ0 SQ18 SQ27 SQ2 SQ1 z n r w_0 w_1 w_2 k0)) 0) (fun nr_20 c13 s7 => (iterG N (stQ66 N SQ6 SQ8 SQ4 SQ7 S_info_UpdateRoot SQ5 SQ13 SQ17 SQ12 SQ11 SQ10 SQ3 SQ0 SQ18 SQ27 SQ2 SQ1 n n n p_4 p_5 nr_20 b1_2 b2_2 b7 b8 c13 s7 (fun t8_2 => (k0 t8_2)) (JQ81 N SQ6 SQ8 SQ4 SQ7 S_info_UpdateRoot SQ5 SQ13 SQ17 SQ12 SQ11 SQ10 SQ3 SQ0 SQ18 SQ27 SQ2 SQ1 z n r w_0 w_1 w_2 k0)) 0))))))))))) (k0 false)) (k0 false))
def JQ84 (N : Nat) (SQ6 : TSQ6) (SQ8 : TSQ8) (SQ4 : TSQ4) (SQ7 : TSQ7) (S_info_UpdateRoot : TS_info_UpdateRoot) (SQ5 : TSQ5) (SQ13 : TSQ13) (SQ17 : TSQ17) (SQ12 : TSQ12) (SQ11 : TSQ11) (SQ10 : TSQ10) (SQ3 : TSQ3) (SQ0 : TSQ0) (SQ18 : TSQ18) (SQ27 : TSQ27) (SQ2 : TSQ2) (SQ1 : TSQ1) (z : List Int) (n : Int) (r w_0 : List Int) (w_1 w_2 : Int) (k0 : Bool -> Bool) : Bool :=
 (SQ4 (fun c9 => (k0 c9)))
def JQ89 (N : Nat) (SQ6 : TSQ6) (SQ8 : TSQ8) (SQ4 : TSQ4) (SQ7 : TSQ7) (S_info_UpdateRoot : TS_info_UpdateRoot) (SQ5 : TSQ5) (SQ13 : TSQ13) (SQ17 : TSQ17) (SQ12 : TSQ12) (SQ11 : TSQ11) (SQ10 : TSQ10) (SQ3 : TSQ3) (SQ0 : TSQ0) (SQ18 : TSQ18) (SQ27 : TSQ27) (SQ2 : TSQ2) (SQ1 : TSQ1) (z : List Int) (n : Int) (r w_0 : List Int) (w_1 w_2 : Int) (b1_1 b2_1 : List Fl) (p p_1 : Int) (k0 : Bool -> Bool) : Bool :=
 (cond ((p != n) == false) (cond ((p_1 != n) == false) ((fits .i64 (n * n)) && (cond (0 != (n * n)) (k0 false) (SQ11 1 (fun n17 cr_5 nsr => (SQ10 (-51) (fun cr_6 nsr_1 => (SQ3 (-51) cr_6 nsr_1 (fun cr_7 nsr_2 => (SQ0 n17 (-51) cr_5 nsr cr_7 nsr_2 (iterG N (stQ43 N SQ6 SQ8 SQ4 SQ7 S_info_UpdateRoot SQ5 SQ13 SQ17 SQ12 SQ11 SQ10 SQ3 SQ0 SQ18 SQ27 SQ2 SQ1 n n n p p_1 (-51) b1_1 b2_1 cr_7 nsr_2 (JQ84 N SQ6 SQ8 SQ4 SQ7 S_info_UpdateRoot SQ5 SQ13 SQ17 SQ12 SQ11 SQ10 SQ3 SQ0 SQ18 SQ27 SQ2 SQ1 z n r w_0 w_1 w_2 k0)) 0) (iterG N (stQ43 N SQ6 SQ8 SQ4 SQ7 S_info_UpdateRoot SQ5 SQ13 SQ17 SQ12 SQ11 SQ10 SQ3 SQ0 SQ18 SQ27 SQ2 SQ1 n n n p p_1 n17 b1_1 b2_1 cr_5 nsr (JQ84 N SQ6 SQ8 SQ4 SQ7 S_info_UpdateRoot SQ5 SQ13 SQ17 SQ12 SQ11 SQ10 SQ3 SQ0 SQ18 SQ27 SQ2 SQ1 z n r w_0 w_1 w_2 k0)) 0) (fun n18 c8 nsr_3 => (iterG N (stQ43 N SQ6 SQ8 SQ4 SQ7 S_info_UpdateRoot SQ5 SQ13 SQ17 SQ12 SQ11 SQ10 SQ3 SQ0 SQ18 SQ27 SQ2 SQ1 n n n p p_1 n18 b1_1 b2_1 c8 nsr_3 (JQ84 N SQ6 SQ8 SQ4 SQ7 S_info_UpdateRoot SQ5 SQ13 SQ17 SQ12 SQ11 SQ10 SQ3 SQ0 SQ18 SQ27 SQ2 SQ1 z n r w_0 w_1 w_2 k0)) 0))))))))))) (k0 false)) (k0 false))
def JQ43 (N : Nat) (SQ6 : TSQ6) (SQ8 : TSQ8) (SQ4 : TSQ4) (SQ7 : TSQ7) (S_info_UpdateRoot : TS_info_UpdateRoot) (SQ5 : TSQ5) (SQ13 : TSQ13) (SQ17 : TSQ17) (SQ12 : TSQ12) (SQ11 : TSQ11) (SQ10 : TSQ10) (SQ3 : TSQ3) (SQ0 : TSQ0) (SQ18 : TSQ18) (SQ27 : TSQ27) (SQ2 : TSQ2) (SQ1 : TSQ1) (z : List Int) (n : Int) (r w_0 : List Int) (w_1 w_2 : Int) (b1 b2 : List Fl) (k0 : Bool -> Bool) : Bool :=
 (SQ12 w_0 (fun xsr_4 => (SQ7 w_1 (fun xr_10 => (SQ7 w_2 (fun xr_11 => (S_info_UpdateRoot n n b1 b2 xsr_4 xr_10 xr_11 (fun n11 n12 xr_12 n13 => (cond (n13 != 0) (SQ4 (fun cr_3 => (k0 cr_3))) (JQ89 N SQ6 SQ8 SQ4 SQ7 S_info_UpdateRoot SQ5 SQ13 SQ17 SQ12 SQ11 SQ10 SQ3 SQ0 SQ18 SQ27 SQ2 SQ1 z n r w_0 w_1 w_2 b1 b2 n11 n12 k0))) (fun n14 n15 xr_13 n16 xsr_5 xsr_6 => (cond (n16 != 0) (SQ4 (fun cr_4 => (k0 cr_4))) (JQ80 N SQ6 SQ8 SQ4 SQ7 S_info_UpdateRoot SQ5 SQ13 SQ17 SQ12 SQ11 SQ10 SQ3 SQ0 SQ18 SQ27 SQ2 SQ1 z n r w_0 w_1 w_2 b1 b2 xsr_5 xsr_6 n14 n15 k0))))))))))
def GQ14 (N : Nat) (SQ6 : TSQ6) (SQ8 : TSQ8) (SQ4 : TSQ4) (SQ7 : TSQ7) (S_info_UpdateRoot : TS_info_UpdateRoot) (SQ5 : TSQ5) (SQ13 : TSQ13) (SQ17 : TSQ17) (SQ12 : TSQ12) (SQ11 : TSQ11) (SQ10 : TSQ10) (SQ3 : TSQ3) (SQ0 : TSQ0) (SQ18 : TSQ18) (SQ27 : TSQ27) (SQ2 : TSQ2) (SQ1 : TSQ1) (z : List Int) (n : Int) (r w_0 : List Int) (w_1 w_2 : Int) (k0 : Bool -> Bool) : Bool :=
 (SQ6 z n r (fun xsr xsr_1 => (SQ8 n n xsr xsr_1 (fun nr => (cond (nr != 0) (SQ4 (fun cr => (k0 cr))) ((mkOk 8 n n) && (SQ7 w_1 (fun xr => (SQ7 w_2 (fun xr_1 => (S_info_UpdateRoot n n xsr xsr_1 (List.replicate (Int.toNat n) (some 0)) xr xr_1 (fun nr_1 nr_2 xr_2 nr_3 => (cond (nr_3 == 0) (SQ5 nr_1 nr_2 [] [] n n xsr xsr_1 (fun cr_1 => (cond ((!cr_1) == false) (SQ13 xr_2 (fun nr_7 => (SQ7 w_2 (fun xr_4 => (SQ7 w_1 (fun xr_5 => (SQ17 xr_5 (fun xr_6 => (SQ13 (fdiv xr_4 xr_6) (fun nr_8 => (cond (nr_7 != nr_8) (k0 false) (JQ43 N SQ6 SQ8 SQ4 SQ7 S_info_UpdateRoot SQ5 SQ13 SQ17 SQ12 SQ11 SQ10 SQ3 SQ0 SQ18 SQ27 SQ2 SQ1 z n r w_0 w_1 w_2 xsr xsr_1 k0)))))))))))) (k0 false)))) (JQ43 N SQ6 SQ8 SQ4 SQ7 S_info_UpdateRoot SQ5 SQ13 SQ17 SQ12 SQ11 SQ10 SQ3 SQ0 SQ18 SQ27 SQ2 SQ1 z n r w_0 w_1 w_2 xsr xsr_1 k0))) (fun nr_4 nr_5 xr_3 nr_6 xsr_2 xsr_3 => (cond (nr_6 == 0) (SQ5 nr_4 nr_5 xsr_2 xsr_3 n n xsr xsr_1 (fun cr_2 => (cond ((!cr_2) == false) (SQ13 xr_3 (fun n9 => (SQ7 w_2 (fun xr_7 => (SQ7 w_1 (fun xr_8 => (SQ17 xr_8 (fun xr_9 => (SQ13 (fdiv xr_7 xr_9) (fun n10 => (cond (n9 != n10) (k0 false) (JQ82 N SQ6 SQ8 SQ4 SQ7 S_info_UpdateRoot SQ5 SQ13 SQ17 SQ12 SQ11 SQ10 SQ3 SQ0 SQ18 SQ27 SQ2 SQ1 z n r w_0 w_1 w_2 xsr xsr_1 k0)))))))))))) (k0 false)))) (JQ82 N SQ6 SQ8 SQ4 SQ7 S_info_UpdateRoot SQ5 SQ13 SQ17 SQ12 SQ11 SQ10 SQ3 SQ0 SQ18 SQ27 SQ2 SQ1 z n r w_0 w_1 w_2 xsr xsr_1 k0))))))))))))))
def sQ14 (N : Nat) : TSQ14 := GQ14 N (sQ6 N) (sQ8 N) (sQ4 N) (sQ7 N) (s_info_UpdateRoot N) (sQ5 N) (sQ13 N) (sQ17 N) (sQ12 N) (sQ11 N) (sQ10 N) (sQ3 N) (sQ0 N) (sQ18 N) (sQ27 N) (sQ2 N) (sQ1 N)
end Go.Proofs.YtjpaijnmiaoopaaGreatDoor
end
section
namespace Go.Proofs.YtjpaijnmiaoopaaGreatDoor
open Go Go.Mach Go.Proofs
set_option linter.unusedSimpArgs false
set_option linter.unusedVariables false
set_option maxRecDepth 50000
noncomputable abbrev Pg : Program := Tryz.prog
def sqs : Nat → List Sh → List Sh
 | 0, t => t
 | n + 1, t => .any :: sqs n t
def isref : Nat -> Bool := fun g => g == 146 || g == 110 || g == 106 || g == 124 || g == 248 || g == 232 || g == 266 || g == 277 || g == 22 || g == 20 || g == 103 || g == 59 || g == 225 || g == 208 || g == 242 || g == 228 || g == 209 || g == 193 || g == 238 || g == 273 || g == 267 || g == 114 || g == 158 || g == 159 || g == 1000279 || g == 1000150 || g == 1000149 || g == 3000081 || g == 3000080 || g == 4000066 || g == 4000082
def shFQ62 : FnSh := ⟨[.fb], []⟩
def spQ62 (SQ62 : TSQ62) : List Atom -> (V -> List Blk -> Bool) -> Bool := fun a_ c_ => match a_ with
 | [.nat a0] => SQ62 a0 (fun r0 => c_ (.int .u64 r0) [])
 | _ => false
abbrev FQ62 (SQ62 : TSQ62) : Fs := mkFs shFQ62 (spQ62 SQ62)
def shF_an_of : FnSh := ⟨[.litI .i64 0], []⟩
def sp_an_of (S_an_of : TS_an_of) : List Atom -> (V -> List Blk -> Bool) -> Bool := fun a_ c_ => match a_ with
 | [] => S_an_of (fun r0 r1 r2 => c_ (.agg [.int .u64 r0, .int .i64 r1, .int .i64 r2]) [])
 | _ => false
abbrev F_an_of (S_an_of : TS_an_of) : Fs := mkFs shF_an_of (sp_an_of S_an_of)
def shFQ75 : FnSh := ⟨[.agg [.int .u64, .int .i64, .int .i64]], []⟩
def spQ75 (SQ75 : TSQ75) : List Atom -> (V -> List Blk -> Bool) -> Bool := fun a_ c_ => match a_ with
 | [.int f_0, .int f_1, .int f_2] => SQ75 f_0 f_1 f_2 (fun r0 => c_ (.int .u64 r0) [])
 | _ => false
abbrev FQ75 (SQ75 : TSQ75) : Fs := mkFs shFQ75 (spQ75 SQ75)
def shFQ42 : FnSh := ⟨[.agg [.int .u64, .int .i64, .int .i64]], []⟩
def spQ42 (SQ42 : TSQ42) : List Atom -> (V -> List Blk -> Bool) -> Bool := fun a_ c_ => match a_ with
 | [.int f_0, .int f_1, .int f_2] => SQ42 f_0 f_1 f_2 (fun r0 => c_ (.int .u64 r0) [])
 | _ => false
abbrev FQ42 (SQ42 : TSQ42) : Fs := mkFs shFQ42 (spQ42 SQ42)
def shFQ41 : FnSh := ⟨[.int .u64, .agg [.int .u64, .int .i64, .int .i64]], []⟩
def spQ41 (SQ41 : TSQ41) : List Atom -> (V -> List Blk -> Bool) -> Bool := fun a_ c_ => match a_ with
 | [.int b, .int f_0, .int f_1, .int f_2] => SQ41 b f_0 f_1 f_2 (fun r0 => c_ (.bool r0) [])
 | _ => false
abbrev FQ41 (SQ41 : TSQ41) : Fs := mkFs shFQ41 (spQ41 SQ41)
def shFQ61 : FnSh := ⟨[.agg [.int .u64, .int .i64, .int .i64]], []⟩
def spQ61 (SQ61 : TSQ61) : List Atom -> (V -> List Blk -> Bool) -> Bool := fun a_ c_ => match a_ with
 | [.int f_0, .int f_1, .int f_2] => SQ61 f_0 f_1 f_2 (fun r0 => c_ (.int .u64 r0) [])
 | _ => false
abbrev FQ61 (SQ61 : TSQ61) : Fs := mkFs shFQ61 (spQ61 SQ61)
def shFQ88 : FnSh := ⟨[.agg [.int .u64, .int .i64, .int .i64]], []⟩
def spQ88 (SQ88 : TSQ88) : List Atom -> (V -> List Blk -> Bool) -> Bool := fun a_ c_ => match a_ with
 | [.int f_0, .int f_1, .int f_2] => SQ88 f_0 f_1 f_2 (fun r0 => c_ (.int .u64 r0) [])
 | _ => false
abbrev FQ88 (SQ88 : TSQ88) : Fs := mkFs shFQ88 (spQ88 SQ88)
def shFQ19 : FnSh := ⟨[.int .u64, .agg [.int .u64, .int .i64, .int .i64]], []⟩
def spQ19 (SQ19 : TSQ19) : List Atom -> (V -> List Blk -> Bool) -> Bool := fun a_ c_ => match a_ with
 | [.int b, .int f_0, .int f_1, .int f_2] => SQ19 b f_0 f_1 f_2 (fun r0 => c_ (.int .u64 r0) [])
 | _ => false
abbrev FQ19 (SQ19 : TSQ19) : Fs := mkFs shFQ19 (spQ19 SQ19)
def shFQ32 : FnSh := ⟨[.int .u64, .agg [.int .u64, .int .i64, .int .i64]], []⟩
def spQ32 (SQ32 : TSQ32) : List Atom -> (V -> List Blk -> Bool) -> Bool := fun a_ c_ => match a_ with
 | [.int b, .int f_0, .int f_1, .int f_2] => SQ32 b f_0 f_1 f_2 (fun r0 r1 r2 => c_ (.tup [.bool r0, .int .i64 r1, .int .u64 r2]) [])
 | _ => false
abbrev FQ32 (SQ32 : TSQ32) : Fs := mkFs shFQ32 (spQ32 SQ32)
def shFQ31 : FnSh := ⟨[.int .u64, .agg [.int .u64, .int .i64, .int .i64]], []⟩
def spQ31 (SQ31 : TSQ31) : List Atom -> (V -> List Blk -> Bool) -> Bool := fun a_ c_ => match a_ with
 | [.int b, .int f_0, .int f_1, .int f_2] => SQ31 b f_0 f_1 f_2 (fun r0 => c_ (.int .i64 r0) [])
 | _ => false
abbrev FQ31 (SQ31 : TSQ31) : Fs := mkFs shFQ31 (spQ31 SQ31)
def shFQ78 : FnSh := ⟨[.fb], []⟩
def spQ78 (SQ78 : TSQ78) : List Atom -> (V -> List Blk -> Bool) -> Bool := fun a_ c_ => match a_ with
 | [.nat x] => SQ78 x (fun r0 => c_ (.int .i64 r0) [])
 | _ => false
abbrev FQ78 (SQ78 : TSQ78) : Fs := mkFs shFQ78 (spQ78 SQ78)
def shFQ37 : FnSh := ⟨[.int .u64], []⟩
def spQ37 (SQ37 : TSQ37) : List Atom -> (V -> List Blk -> Bool) -> Bool := fun a_ c_ => match a_ with
 | [.int a0] => SQ37 a0 (fun r0 => c_ (.flt r0) [])
 | _ => false
abbrev FQ37 (SQ37 : TSQ37) : Fs := mkFs shFQ37 (spQ37 SQ37)
def shFQ94 : FnSh := ⟨[.fb], []⟩
def spQ94 (SQ94 : TSQ94) : List Atom -> (V -> List Blk -> Bool) -> Bool := fun a_ c_ => match a_ with
 | [.nat x] => SQ94 x (fun r0 => c_ (.flt r0) [])
 | _ => false
abbrev FQ94 (SQ94 : TSQ94) : Fs := mkFs shFQ94 (spQ94 SQ94)
def shFQ12 : FnSh := ⟨[.roi .u64], []⟩
def spQ12 (SQ12 : TSQ12) : List Atom -> (V -> List Blk -> Bool) -> Bool := fun a_ c_ => match a_ with
 | [.ints l] => SQ12 l (fun r0 => c_ (.slw 0) [⟨36, 1, .flts r0⟩])
 | _ => false
abbrev FQ12 (SQ12 : TSQ12) : Fs := mkFs shFQ12 (spQ12 SQ12)
def shFQ6 : FnSh := ⟨[.roi .u64, .int .i64, .roi .u64], []⟩
def spQ6 (SQ6 : TSQ6) : List Atom -> (V -> List Blk -> Bool) -> Bool := fun a_ c_ => match a_ with
 | [.ints z, .int rows, .ints r] => SQ6 z rows r (fun r2 r3 => c_ (.agg [.int .i64 rows, .int .i64 rows, .slw 0, .slw 1]) [⟨36, 1, .flts r2⟩, ⟨36, 1, .flts r3⟩])
 | _ => false
abbrev FQ6 (SQ6 : TSQ6) : Fs := mkFs shFQ6 (spQ6 SQ6)
def shFQ72 : FnSh := ⟨[.int .i64, .int .i64, .int .i64], []⟩
def spQ72 (SQ72 : TSQ72) : List Atom -> (V -> List Blk -> Bool) -> Bool := fun a_ c_ => match a_ with
 | [.int rows, .int cols, .int n] => SQ72 rows cols n (fun r0 => c_ (.int .i64 r0) [])
 | _ => false
abbrev FQ72 (SQ72 : TSQ72) : Fs := mkFs shFQ72 (spQ72 SQ72)
def shFQ13 : FnSh := ⟨[.flt], []⟩
def spQ13 (SQ13 : TSQ13) : List Atom -> (V -> List Blk -> Bool) -> Bool := fun a_ c_ => match a_ with
 | [.fl a0] => SQ13 a0 (fun r0 => c_ (.int .u64 r0) [])
 | _ => false
abbrev FQ13 (SQ13 : TSQ13) : Fs := mkFs shFQ13 (spQ13 SQ13)
def shFQ64 : FnSh := ⟨[.flt], []⟩
def spQ64 (SQ64 : TSQ64) : List Atom -> (V -> List Blk -> Bool) -> Bool := fun a_ c_ => match a_ with
 | [.fl x] => SQ64 x (fun r0 => c_ (.int .u64 r0) [])
 | _ => false
abbrev FQ64 (SQ64 : TSQ64) : Fs := mkFs shFQ64 (spQ64 SQ64)
def shFQ44 : FnSh := ⟨[.flt], []⟩
def spQ44 (SQ44 : TSQ44) : List Atom -> (V -> List Blk -> Bool) -> Bool := fun a_ c_ => match a_ with
 | [.fl x] => SQ44 x (fun r0 r1 r2 => c_ (.tup [.bool r0, .int .i64 r1, .int .u64 r2]) [])
 | _ => false
abbrev FQ44 (SQ44 : TSQ44) : Fs := mkFs shFQ44 (spQ44 SQ44)
def shFQ56 : FnSh := ⟨[.int .i64, .int .u64, .int .i64], []⟩
def spQ56 (SQ56 : TSQ56) : List Atom -> (V -> List Blk -> Bool) -> Bool := fun a_ c_ => match a_ with
 | [.int exp, .int frac, .int most] => SQ56 exp frac most (fun r0 => c_ (.int .i64 r0) [])
 | _ => false
abbrev FQ56 (SQ56 : TSQ56) : Fs := mkFs shFQ56 (spQ56 SQ56)
def shFQ71 : FnSh := ⟨[.flt], []⟩
def spQ71 (SQ71 : TSQ71) : List Atom -> (V -> List Blk -> Bool) -> Bool := fun a_ c_ => match a_ with
 | [.fl x] => SQ71 x (fun r0 => c_ (.int .i64 r0) [])
 | _ => false
abbrev FQ71 (SQ71 : TSQ71) : Fs := mkFs shFQ71 (spQ71 SQ71)
def shFQ50 : FnSh := ⟨[.flt], []⟩
def spQ50 (SQ50 : TSQ50) : List Atom -> (V -> List Blk -> Bool) -> Bool := fun a_ c_ => match a_ with
 | [.fl x] => SQ50 x (fun r0 => c_ (.bool r0) [])
 | _ => false
abbrev FQ50 (SQ50 : TSQ50) : Fs := mkFs shFQ50 (spQ50 SQ50)
def shFQ26 : FnSh := ⟨[.rof], []⟩
def spQ26 (SQ26 : TSQ26) : List Atom -> (V -> List Blk -> Bool) -> Bool := fun a_ c_ => match a_ with
 | [.fls l] => SQ26 l (fun r0 => c_ (.bool r0) [])
 | _ => false
abbrev FQ26 (SQ26 : TSQ26) : Fs := mkFs shFQ26 (spQ26 SQ26)
def shFQ39 : FnSh := ⟨[.agg [.int .i64, .int .i64, .rof]], []⟩
def spQ39 (SQ39 : TSQ39) : List Atom -> (V -> List Blk -> Bool) -> Bool := fun a_ c_ => match a_ with
 | [.int m_0, .int m_1, .fls m_2] => SQ39 m_0 m_1 m_2 (fun r0 => c_ (.int .i64 r0) [])
 | _ => false
abbrev FQ39 (SQ39 : TSQ39) : Fs := mkFs shFQ39 (spQ39 SQ39)
def shFQ79 : FnSh := ⟨[.agg [.int .i64, .int .i64, .rof]], []⟩
def spQ79 (SQ79 : TSQ79) : List Atom -> (V -> List Blk -> Bool) -> Bool := fun a_ c_ => match a_ with
 | [.int m_0, .int m_1, .fls m_2] => SQ79 m_0 m_1 m_2 (fun r0 => c_ (.int .i64 r0) [])
 | _ => false
abbrev FQ79 (SQ79 : TSQ79) : Fs := mkFs shFQ79 (spQ79 SQ79)
def shFQ54 : FnSh := ⟨[.int .i64, .int .i64], []⟩
def spQ54 (SQ54 : TSQ54) : List Atom -> (V -> List Blk -> Bool) -> Bool := fun a_ c_ => match a_ with
 | [.int rows, .int cols] => SQ54 rows cols (fun r2 => c_ (.agg [.int .i64 rows, .int .i64 cols, .slw 0]) [⟨36, 1, .flts r2⟩])
 | _ => false
abbrev FQ54 (SQ54 : TSQ54) : Fs := mkFs shFQ54 (spQ54 SQ54)
def shFQ52 : FnSh := ⟨[.agg [.int .i64, .int .i64, .rof], .int .i64, .int .i64], []⟩
def spQ52 (SQ52 : TSQ52) : List Atom -> (V -> List Blk -> Bool) -> Bool := fun a_ c_ => match a_ with
 | [.int m_0, .int m_1, .fls m_2, .int i, .int j] => SQ52 m_0 m_1 m_2 i j (fun r0 => c_ (.flt r0) [])
 | _ => false
abbrev FQ52 (SQ52 : TSQ52) : Fs := mkFs shFQ52 (spQ52 SQ52)
def shFQ40 : FnSh := ⟨[.agg [.int .i64, .int .i64, .slw 0], .int .i64, .int .i64, .flt], [some (36, 1, .flts)]⟩
def spQ40 (SQ40 : TSQ40) : List Atom -> (V -> List Blk -> Bool) -> Bool := fun a_ c_ => match a_ with
 | [.int m_0, .int m_1, .int i, .int j, .fl x, .fls b] => SQ40 m_0 m_1 i j x b (fun r0 => c_ (.tup []) [⟨36, 1, .flts r0⟩])
 | _ => false
abbrev FQ40 (SQ40 : TSQ40) : Fs := mkFs shFQ40 (spQ40 SQ40)
def shFQ73 : FnSh := ⟨[.agg [.int .i64, .int .i64, .rof]], []⟩
def spQ73 (SQ73 : TSQ73) : List Atom -> (V -> List Blk -> Bool) -> Bool := fun a_ c_ => match a_ with
 | [.int m_0, .int m_1, .fls m_2] => SQ73 m_0 m_1 m_2 (fun r2 => c_ (.agg [.int .i64 m_1, .int .i64 m_0, .slw 0]) [⟨36, 1, .flts r2⟩])
 | _ => false
abbrev FQ73 (SQ73 : TSQ73) : Fs := mkFs shFQ73 (spQ73 SQ73)
def shFQ53 : FnSh := ⟨[.flt, .flt], []⟩
def spQ53 (SQ53 : TSQ53) : List Atom -> (V -> List Blk -> Bool) -> Bool := fun a_ c_ => match a_ with
 | [.fl a, .fl b] => SQ53 a b (fun r0 => c_ (.bool r0) [])
 | _ => false
abbrev FQ53 (SQ53 : TSQ53) : Fs := mkFs shFQ53 (spQ53 SQ53)
def shFQ46 : FnSh := ⟨[.agg [.int .i64, .int .i64, .rof]], []⟩
def spQ46 (SQ46 : TSQ46) : List Atom -> (V -> List Blk -> Bool) -> Bool := fun a_ c_ => match a_ with
 | [.int m_0, .int m_1, .fls m_2] => SQ46 m_0 m_1 m_2 (fun r0 => c_ (.int .i64 r0) [])
 | _ => false
abbrev FQ46 (SQ46 : TSQ46) : Fs := mkFs shFQ46 (spQ46 SQ46)
def shFQ8 : FnSh := ⟨[.agg [.int .i64, .int .i64, .rof, .rof]], []⟩
def spQ8 (SQ8 : TSQ8) : List Atom -> (V -> List Blk -> Bool) -> Bool := fun a_ c_ => match a_ with
 | [.int a_0, .int a_1, .fls a_2, .fls a_3] => SQ8 a_0 a_1 a_2 a_3 (fun r0 => c_ (.int .i64 r0) [])
 | _ => false
abbrev FQ8 (SQ8 : TSQ8) : Fs := mkFs shFQ8 (spQ8 SQ8)
def shFQ4 : FnSh := ⟨[], []⟩
def spQ4 (SQ4 : TSQ4) : List Atom -> (V -> List Blk -> Bool) -> Bool := fun a_ c_ => match a_ with
 | [] => SQ4 (fun r0 => c_ (.bool r0) [])
 | _ => false
abbrev FQ4 (SQ4 : TSQ4) : Fs := mkFs shFQ4 (spQ4 SQ4)
def shFQ7 : FnSh := ⟨[.int .u64], []⟩
def spQ7 (SQ7 : TSQ7) : List Atom -> (V -> List Blk -> Bool) -> Bool := fun a_ c_ => match a_ with
 | [.int b] => SQ7 b (fun r0 => c_ (.flt r0) [])
 | _ => false
abbrev FQ7 (SQ7 : TSQ7) : Fs := mkFs shFQ7 (spQ7 SQ7)
def shFQ59 : FnSh := ⟨[.int .i64], []⟩
def spQ59 (SQ59 : TSQ59) : List Atom -> (V -> List Blk -> Bool) -> Bool := fun a_ c_ => match a_ with
 | [.int n] => SQ59 n (fun r0 => c_ (.bool r0) [])
 | _ => false
abbrev FQ59 (SQ59 : TSQ59) : Fs := mkFs shFQ59 (spQ59 SQ59)
def shFQ69 : FnSh := ⟨[.flt], []⟩
def spQ69 (SQ69 : TSQ69) : List Atom -> (V -> List Blk -> Bool) -> Bool := fun a_ c_ => match a_ with
 | [.fl x] => SQ69 x (fun r0 => c_ (.int .i64 r0) [])
 | _ => false
abbrev FQ69 (SQ69 : TSQ69) : Fs := mkFs shFQ69 (spQ69 SQ69)
def shFQ24 : FnSh := ⟨[.rof], []⟩
def spQ24 (SQ24 : TSQ24) : List Atom -> (V -> List Blk -> Bool) -> Bool := fun a_ c_ => match a_ with
 | [.fls l] => SQ24 l (fun r0 => c_ (.bool r0) [])
 | _ => false
abbrev FQ24 (SQ24 : TSQ24) : Fs := mkFs shFQ24 (spQ24 SQ24)
def shFQ20 : FnSh := ⟨[.agg [.int .i64, .int .i64, .rof]], []⟩
def spQ20 (SQ20 : TSQ20) : List Atom -> (V -> List Blk -> Bool) -> Bool := fun a_ c_ => match a_ with
 | [.int m_0, .int m_1, .fls m_2] => SQ20 m_0 m_1 m_2 (fun r0 => c_ (.int .i64 r0) [])
 | _ => false
abbrev FQ20 (SQ20 : TSQ20) : Fs := mkFs shFQ20 (spQ20 SQ20)
def shF_info_CheckRoot : FnSh := ⟨[.agg [.int .i64, .int .i64, .rof, .rof]], []⟩
def sp_info_CheckRoot (S_info_CheckRoot : TS_info_CheckRoot) : List Atom -> (V -> List Blk -> Bool) -> Bool := fun a_ c_ => match a_ with
 | [.int a_0, .int a_1, .fls a_2, .fls a_3] => S_info_CheckRoot a_0 a_1 a_2 a_3 (fun r0 => c_ (.int .i64 r0) [])
 | _ => false
abbrev F_info_CheckRoot (S_info_CheckRoot : TS_info_CheckRoot) : Fs := mkFs shF_info_CheckRoot (sp_info_CheckRoot S_info_CheckRoot)
def shF_info_line : FnSh := ⟨[.int .i64, .rof, .flt, .flt], []⟩
def sp_info_line (S_info_line : TS_info_line) : List Atom -> (V -> List Blk -> Bool) -> Bool := fun a_ c_ => match a_ with
 | [.int n, .fls h, .fl r, .fl z] => S_info_line n h r z (fun r0 => c_ (.int .i64 r0) [])
 | _ => false
abbrev F_info_line (S_info_line : TS_info_line) : Fs := mkFs shF_info_line (sp_info_line S_info_line)
def shFQ98 : FnSh := ⟨[.flt], []⟩
def spQ98 (SQ98 : TSQ98) : List Atom -> (V -> List Blk -> Bool) -> Bool := fun a_ c_ => match a_ with
 | [.fl a0] => SQ98 a0 (fun r0 => c_ (.flt r0) [])
 | _ => false
abbrev FQ98 (SQ98 : TSQ98) : Fs := mkFs shFQ98 (spQ98 SQ98)
def shFQ17 : FnSh := ⟨[.flt], []⟩
def spQ17 (SQ17 : TSQ17) : List Atom -> (V -> List Blk -> Bool) -> Bool := fun a_ c_ => match a_ with
 | [.fl x] => SQ17 x (fun r0 => c_ (.flt r0) [])
 | _ => false
abbrev FQ17 (SQ17 : TSQ17) : Fs := mkFs shFQ17 (spQ17 SQ17)
def shF_slices_Clone___float64_float64_ : FnSh := ⟨[.rof], []⟩
def sp_slices_Clone___float64_float64_ (S_slices_Clone___float64_float64_ : TS_slices_Clone___float64_float64_) : List Atom -> (V -> List Blk -> Bool) -> Bool := fun a_ c_ => match a_ with
 | [.fls s] => S_slices_Clone___float64_float64_ s (fun r0 => c_ (.slw 0) [⟨36, 1, .flts r0⟩])
 | _ => false
abbrev F_slices_Clone___float64_float64_ (S_slices_Clone___float64_float64_ : TS_slices_Clone___float64_float64_) : Fs := mkFs shF_slices_Clone___float64_float64_ (sp_slices_Clone___float64_float64_ S_slices_Clone___float64_float64_)
def shF_m_Abs : FnSh := ⟨[.flt], []⟩
def sp_m_Abs (S_m_Abs : TS_m_Abs) : List Atom -> (V -> List Blk -> Bool) -> Bool := fun a_ c_ => match a_ with
 | [.fl x] => S_m_Abs x (fun r0 => c_ (.flt r0) [])
 | _ => false
abbrev F_m_Abs (S_m_Abs : TS_m_Abs) : Fs := mkFs shF_m_Abs (sp_m_Abs S_m_Abs)
def shFQ63 : FnSh := ⟨[.flt, .int .i64], []⟩
def spQ63 (SQ63 : TSQ63) : List Atom -> (V -> List Blk -> Bool) -> Bool := fun a_ c_ => match a_ with
 | [.fl f, .int sign] => SQ63 f sign (fun r0 => c_ (.bool r0) [])
 | _ => false
abbrev FQ63 (SQ63 : TSQ63) : Fs := mkFs shFQ63 (spQ63 SQ63)
def shFQ25 : FnSh := ⟨[.ptr 0 0, .flt], [some (132, 1, .cells [.bool])]⟩
def spQ25 (SQ25 : TSQ25) : List Atom -> (V -> List Blk -> Bool) -> Bool := fun a_ c_ => match a_ with
 | [.fl x, .bool b] => SQ25 x b (fun r1 => c_ (.flt x) [⟨132, 1, .cells [.bool r1]⟩])
 | _ => false
abbrev FQ25 (SQ25 : TSQ25) : Fs := mkFs shFQ25 (spQ25 SQ25)
theorem fr_finite_Steps_Of_p0 (SQ25 : TSQ25) : FrF 1 (FQ25 SQ25) := by
 refine fr_of fun a k h => ?_
 unfold spQ25 at h ⊢
 split at h
 ·rename_i p_x p_b
  refine ⟨[⟨132, 1, .cells [.bool p_b]⟩], rfl, ?_⟩
  simp only [frB1_eq, frB2_eq, decide_true, Bool.and_true]
  exact h
 ·cases h
def shFQ21 : FnSh := ⟨[.ptr 0 0, .flt, .flt], [some (132, 1, .cells [.bool])]⟩
def spQ21 (SQ21 : TSQ21) : List Atom -> (V -> List Blk -> Bool) -> Bool := fun a_ c_ => match a_ with
 | [.fl a, .fl b, .bool b_1] => SQ21 a b b_1 (fun r0 r1 => c_ (.flt r0) [⟨132, 1, .cells [.bool r1]⟩])
 | _ => false
abbrev FQ21 (SQ21 : TSQ21) : Fs := mkFs shFQ21 (spQ21 SQ21)
theorem fr_finite_Steps_Mul_p0 (SQ21 : TSQ21) : FrF 1 (FQ21 SQ21) := by
 refine fr_of fun a k h => ?_
 unfold spQ21 at h ⊢
 split at h
 ·rename_i p_a p_b p_b_1
  refine ⟨[⟨132, 1, .cells [.bool p_b_1]⟩], rfl, ?_⟩
  simp only [frB1_eq, frB2_eq, decide_true, Bool.and_true]
  exact h
 ·cases h
def shFQ22 : FnSh := ⟨[.ptr 0 0], [some (132, 1, .cells [.bool])]⟩
def spQ22 (SQ22 : TSQ22) : List Atom -> (V -> List Blk -> Bool) -> Bool := fun a_ c_ => match a_ with
 | [.bool b] => SQ22 b (c_ (.bool b) [⟨132, 1, .cells [.bool b]⟩])
 | _ => false
abbrev FQ22 (SQ22 : TSQ22) : Fs := mkFs shFQ22 (spQ22 SQ22)
theorem fr_finite_Steps_Over_p0 (SQ22 : TSQ22) : FrF 2 (FQ22 SQ22) := by
 refine fr_of fun a k h => ?_
 unfold spQ22 at h ⊢
 split at h
 ·rename_i p_b
  refine ⟨[⟨132, 1, .cells [.bool p_b]⟩], rfl, ?_⟩
  simp only [frB1_eq, frB2_eq, decide_true, Bool.and_true]
  exact h
 ·cases h
def shF_v_info_rotation_turn_p0 : FnSh := ⟨[.agg [.flt, .flt], .ptr 0 0, .flt, .flt], [some (132, 1, .cells [.bool])]⟩
def sp_v_info_rotation_turn_p0 (S_v_info_rotation_turn_p0 : TS_v_info_rotation_turn_p0) : List Atom -> (V -> List Blk -> Bool) -> Bool := fun a_ c_ => match a_ with
 | [.fl r_0, .fl r_1, .fl a, .fl b, .bool b_1] => S_v_info_rotation_turn_p0 r_0 r_1 a b b_1 (fun r0 r1 r2 => c_ (.tup [.flt r0, .flt r1]) [⟨132, 1, .cells [.bool r2]⟩])
 | _ => false
abbrev F_v_info_rotation_turn_p0 (S_v_info_rotation_turn_p0 : TS_v_info_rotation_turn_p0) : Fs := mkFs shF_v_info_rotation_turn_p0 (sp_v_info_rotation_turn_p0 S_v_info_rotation_turn_p0)
def shF_info_UpdateRoot : FnSh := ⟨[.agg [.int .i64, .int .i64, .rof, .rof], .rof, .flt, .flt], []⟩
def sp_info_UpdateRoot (S_info_UpdateRoot : TS_info_UpdateRoot) : List Atom -> (V -> List Blk -> Bool) -> Bool := fun a_ c_ => match a_ with
 | [.int a_0, .int a_1, .fls a_2, .fls a_3, .fls h, .fl r, .fl z] => S_info_UpdateRoot a_0 a_1 a_2 a_3 h r z (fun r0 r1 r2 r3 => c_ (.tup [.agg [.int .i64 r0, .int .i64 r1, .nil, .nil], .flt r2, .int .i64 r3]) []) (fun r0 r1 r2 r3 r4 r5 => c_ (.tup [.agg [.int .i64 r0, .int .i64 r1, .slw 0, .slw 1], .flt r2, .int .i64 r3]) [⟨36, 1, .flts r4⟩, ⟨36, 1, .flts r5⟩])
 | _ => false
abbrev F_info_UpdateRoot (S_info_UpdateRoot : TS_info_UpdateRoot) : Fs := mkFs shF_info_UpdateRoot (sp_info_UpdateRoot S_info_UpdateRoot)
def shFQ15 : FnSh := ⟨[.rof, .rof], []⟩
def spQ15 (SQ15 : TSQ15) : List Atom -> (V -> List Blk -> Bool) -> Bool := fun a_ c_ => match a_ with
 | [.fls a, .fls b] => SQ15 a b (fun r0 => c_ (.bool r0) [])
 | _ => false
abbrev FQ15 (SQ15 : TSQ15) : Fs := mkFs shFQ15 (spQ15 SQ15)
def shFQ29 : FnSh := ⟨[.agg [.int .i64, .int .i64, .rof], .agg [.int .i64, .int .i64, .rof]], []⟩
def spQ29 (SQ29 : TSQ29) : List Atom -> (V -> List Blk -> Bool) -> Bool := fun a_ c_ => match a_ with
 | [.int a_0, .int a_1, .fls a_2, .int b_0, .int b_1, .fls b_2] => SQ29 a_0 a_1 a_2 b_0 b_1 b_2 (fun r0 => c_ (.bool r0) [])
 | _ => false
abbrev FQ29 (SQ29 : TSQ29) : Fs := mkFs shFQ29 (spQ29 SQ29)
def shFQ5 : FnSh := ⟨[.agg [.int .i64, .int .i64, .rof, .rof], .agg [.int .i64, .int .i64, .rof, .rof]], []⟩
def spQ5 (SQ5 : TSQ5) : List Atom -> (V -> List Blk -> Bool) -> Bool := fun a_ c_ => match a_ with
 | [.int a_0, .int a_1, .fls a_2, .fls a_3, .int b_0, .int b_1, .fls b_2, .fls b_3] => SQ5 a_0 a_1 a_2 a_3 b_0 b_1 b_2 b_3 (fun r0 => c_ (.bool r0) [])
 | _ => false
abbrev FQ5 (SQ5 : TSQ5) : Fs := mkFs shFQ5 (spQ5 SQ5)
def shFQ9 : FnSh := ⟨[.slw 0], [some (156, 1, .ints .u32)]⟩
def spQ9 (SQ9 : TSQ9) : List Atom -> (V -> List Blk -> Bool) -> Bool := fun a_ c_ => match a_ with
 | [.ints b] => SQ9 b (fun r0 => c_ (.sl 0 0 r0) [⟨156, 1, .ints .u32 b⟩])
 | _ => false
abbrev FQ9 (SQ9 : TSQ9) : Fs := mkFs shFQ9 (spQ9 SQ9)
def shFQ45 : FnSh := ⟨[.int .u64], []⟩
def spQ45 (SQ45 : TSQ45) : List Atom -> (V -> List Blk -> Bool) -> Bool := fun a_ c_ => match a_ with
 | [.int n] => SQ45 n (fun r0 => c_ (.roi .u32 r0) [])
 | _ => false
abbrev FQ45 (SQ45 : TSQ45) : Fs := mkFs shFQ45 (spQ45 SQ45)
def shFQ87 : FnSh := ⟨[.roi .u32], []⟩
def spQ87 (SQ87 : TSQ87) : List Atom -> (V -> List Blk -> Bool) -> Bool := fun a_ c_ => match a_ with
 | [.ints m] => SQ87 m (fun r0 => c_ (.roi .u32 r0) [])
 | _ => false
abbrev FQ87 (SQ87 : TSQ87) : Fs := mkFs shFQ87 (spQ87 SQ87)
def shFQ16 : FnSh := ⟨[.ptr 0 0, .bool, .roi .u32], [some (57, 1, .cells [.bool, .nil])]⟩
def spQ16 (SQ16 : TSQ16) : List Atom -> (V -> List Blk -> Bool) -> Bool := fun a_ c_ => match a_ with
 | [.bool neg, .ints m, .bool b] => SQ16 neg m b (fun r0 r1 => c_ (.ptr 0 0) [⟨57, 1, .cells [.bool r0, .roi .u32 r1]⟩])
 | _ => false
abbrev FQ16 (SQ16 : TSQ16) : Fs := mkFs shFQ16 (spQ16 SQ16)
def shFQ35 : FnSh := ⟨[.ptr 0 0, .int .i64], [some (57, 1, .cells [.bool, .nil])]⟩
def spQ35 (SQ35 : TSQ35) : List Atom -> (V -> List Blk -> Bool) -> Bool := fun a_ c_ => match a_ with
 | [.int n, .bool b] => SQ35 n b (fun r0 r1 => c_ (.ptr 0 0) [⟨57, 1, .cells [.bool r0, .roi .u32 r1]⟩])
 | _ => false
abbrev FQ35 (SQ35 : TSQ35) : Fs := mkFs shFQ35 (spQ35 SQ35)
def shFQ47 : FnSh := ⟨[.int .i64], []⟩
def spQ47 (SQ47 : TSQ47) : List Atom -> (V -> List Blk -> Bool) -> Bool := fun a_ c_ => match a_ with
 | [.int n] => SQ47 n (fun r0 r1 => c_ (.ptr 0 0) [⟨57, 1, .cells [.bool r0, .roi .u32 r1]⟩])
 | _ => false
abbrev FQ47 (SQ47 : TSQ47) : Fs := mkFs shFQ47 (spQ47 SQ47)
def shFQ11 : FnSh := ⟨[.int .i64], []⟩
def spQ11 (SQ11 : TSQ11) : List Atom -> (V -> List Blk -> Bool) -> Bool := fun a_ c_ => match a_ with
 | [.int n] => SQ11 n (fun r0 r1 r2 => c_ (.agg [.ptr 0 0, .int .i64 r0]) [⟨57, 1, .cells [.bool r1, .roi .u32 r2]⟩])
 | _ => false
abbrev FQ11 (SQ11 : TSQ11) : Fs := mkFs shFQ11 (spQ11 SQ11)
def shFQ10 : FnSh := ⟨[.int .i64], []⟩
def spQ10 (SQ10 : TSQ10) : List Atom -> (V -> List Blk -> Bool) -> Bool := fun a_ c_ => match a_ with
 | [.int e] => SQ10 e (fun r1 r2 => c_ (.agg [.ptr 0 0, .int .i64 e]) [⟨57, 1, .cells [.bool r1, .roi .u32 r2]⟩])
 | _ => false
abbrev FQ10 (SQ10 : TSQ10) : Fs := mkFs shFQ10 (spQ10 SQ10)
def shFQ57 : FnSh := ⟨[.ptr 0 0, .bool, .slw 1], [some (57, 1, .cells [.bool, .nil]), some (156, 1, .ints .u32)]⟩
def spQ57 (SQ57 : TSQ57) : List Atom -> (V -> List Blk -> Bool) -> Bool := fun a_ c_ => match a_ with
 | [.bool neg, .bool b, .ints b_1] => SQ57 neg b b_1 (fun r0 r1 r2 => c_ (.ptr 0 0) [⟨57, 1, .cells [.bool r0, .sl 1 r1 r2]⟩, ⟨156, 1, .ints .u32 b_1⟩])
 | _ => false
abbrev FQ57 (SQ57 : TSQ57) : Fs := mkFs shFQ57 (spQ57 SQ57)
def shFQ49 : FnSh := ⟨[.ptr 0 0, .ptr 1 0], [some (57, 1, .cells [.bool, .nil]), some (57, 1, .cells [.bool, .roi .u32])]⟩
def spQ49 (SQ49 : TSQ49) : List Atom -> (V -> List Blk -> Bool) -> Bool := fun a_ c_ => match a_ with
 | [.bool b, .bool b_1, .ints b_2] => SQ49 b b_1 b_2 (fun r0 r1 => c_ (.ptr 0 0) [⟨57, 1, .cells [.bool r0, .roi .u32 r1]⟩, ⟨57, 1, .cells [.bool b_1, .roi .u32 b_2]⟩])
 | _ => false
abbrev FQ49 (SQ49 : TSQ49) : Fs := mkFs shFQ49 (spQ49 SQ49)
def shFQ3 : FnSh := ⟨[.agg [.ptr 0 0, .int .i64]], [some (57, 1, .cells [.bool, .roi .u32])]⟩
def spQ3 (SQ3 : TSQ3) : List Atom -> (V -> List Blk -> Bool) -> Bool := fun a_ c_ => match a_ with
 | [.int x, .bool b, .ints b_1] => SQ3 x b b_1 (fun r3 r4 => c_ (.agg [.ptr 1 0, .int .i64 x]) [⟨57, 1, .cells [.bool b, .roi .u32 b_1]⟩, ⟨57, 1, .cells [.bool r3, .roi .u32 r4]⟩])
 | _ => false
abbrev FQ3 (SQ3 : TSQ3) : Fs := mkFs shFQ3 (spQ3 SQ3)
def shFQ36 : FnSh := ⟨[.ptr 0 0], [some (57, 1, .cells [.bool, .roi .u32])]⟩
def spQ36 (SQ36 : TSQ36) : List Atom -> (V -> List Blk -> Bool) -> Bool := fun a_ c_ => match a_ with
 | [.bool b, .ints b_1] => SQ36 b b_1 (fun r0 => c_ (.int .i64 r0) [⟨57, 1, .cells [.bool b, .roi .u32 b_1]⟩])
 | _ => false
abbrev FQ36 (SQ36 : TSQ36) : Fs := mkFs shFQ36 (spQ36 SQ36)
def shFQ76 : FnSh := ⟨[.roi .u32, .int .u64], []⟩
def spQ76 (SQ76 : TSQ76) : List Atom -> (V -> List Blk -> Bool) -> Bool := fun a_ c_ => match a_ with
 | [.ints m, .int n] => SQ76 m n (fun r0 => c_ (.roi .u32 r0) [])
 | _ => false
abbrev FQ76 (SQ76 : TSQ76) : Fs := mkFs shFQ76 (spQ76 SQ76)
def shFQ48 : FnSh := ⟨[.ptr 0 0, .ptr 1 0, .int .u64], [some (57, 1, .cells [.bool, .nil]), some (57, 1, .cells [.bool, .roi .u32])]⟩
def spQ48 (SQ48 : TSQ48) : List Atom -> (V -> List Blk -> Bool) -> Bool := fun a_ c_ => match a_ with
 | [.int n, .bool b, .bool b_1, .ints b_2] => SQ48 n b b_1 b_2 (fun r0 r1 => c_ (.ptr 0 0) [⟨57, 1, .cells [.bool r0, .roi .u32 r1]⟩, ⟨57, 1, .cells [.bool b_1, .roi .u32 b_2]⟩])
 | _ => false
abbrev FQ48 (SQ48 : TSQ48) : Fs := mkFs shFQ48 (spQ48 SQ48)
def shFQ23 : FnSh := ⟨[.agg [.ptr 0 0, .int .i64], .int .i64], [some (57, 1, .cells [.bool, .roi .u32])]⟩
def spQ23 (SQ23 : TSQ23) : List Atom -> (V -> List Blk -> Bool) -> Bool := fun a_ c_ => match a_ with
 | [.int x, .int e, .bool b, .ints b_1] => SQ23 x e b b_1 (c_ (.agg [.ptr 0 0, .int .i64 x]) [⟨57, 1, .cells [.bool b, .roi .u32 b_1]⟩]) (fun r3 r4 => c_ (.agg [.ptr 1 0, .int .i64 e]) [⟨57, 1, .cells [.bool b, .roi .u32 b_1]⟩, ⟨57, 1, .cells [.bool r3, .roi .u32 r4]⟩])
 | _ => false
abbrev FQ23 (SQ23 : TSQ23) : Fs := mkFs shFQ23 (spQ23 SQ23)
def shFQ77 : FnSh := ⟨[.roi .u32, .roi .u32], []⟩
def spQ77 (SQ77 : TSQ77) : List Atom -> (V -> List Blk -> Bool) -> Bool := fun a_ c_ => match a_ with
 | [.ints a, .ints b] => SQ77 a b (fun r0 => c_ (.roi .u32 r0) [])
 | _ => false
abbrev FQ77 (SQ77 : TSQ77) : Fs := mkFs shFQ77 (spQ77 SQ77)
def shFQ60 : FnSh := ⟨[.roi .u32, .roi .u32], []⟩
def spQ60 (SQ60 : TSQ60) : List Atom -> (V -> List Blk -> Bool) -> Bool := fun a_ c_ => match a_ with
 | [.ints a, .ints b] => SQ60 a b (fun r0 => c_ (.int .i64 r0) [])
 | _ => false
abbrev FQ60 (SQ60 : TSQ60) : Fs := mkFs shFQ60 (spQ60 SQ60)
def shFQ68 : FnSh := ⟨[.roi .u32, .roi .u32], []⟩
def spQ68 (SQ68 : TSQ68) : List Atom -> (V -> List Blk -> Bool) -> Bool := fun a_ c_ => match a_ with
 | [.ints a, .ints b] => SQ68 a b (fun r0 => c_ (.roi .u32 r0) [])
 | _ => false
abbrev FQ68 (SQ68 : TSQ68) : Fs := mkFs shFQ68 (spQ68 SQ68)
def shFQ34 : FnSh := ⟨[.ptr 0 0, .ptr 1 0, .ptr 2 0, .bool], [some (57, 1, .cells [.bool, .nil]), some (57, 1, .cells [.bool, .roi .u32]), some (57, 1, .cells [.bool, .roi .u32])]⟩
def spQ34 (SQ34 : TSQ34) : List Atom -> (V -> List Blk -> Bool) -> Bool := fun a_ c_ => match a_ with
 | [.bool turn, .bool b, .bool b_1, .ints b_2, .bool b_3, .ints b_4] => SQ34 turn b b_1 b_2 b_3 b_4 (fun r0 r1 => c_ (.ptr 0 0) [⟨57, 1, .cells [.bool r0, .roi .u32 r1]⟩, ⟨57, 1, .cells [.bool b_1, .roi .u32 b_2]⟩, ⟨57, 1, .cells [.bool b_3, .roi .u32 b_4]⟩])
 | _ => false
abbrev FQ34 (SQ34 : TSQ34) : Fs := mkFs shFQ34 (spQ34 SQ34)
def shFQ28 : FnSh := ⟨[.ptr 0 0, .ptr 1 0, .ptr 2 0], [some (57, 1, .cells [.bool, .nil]), some (57, 1, .cells [.bool, .roi .u32]), some (57, 1, .cells [.bool, .roi .u32])]⟩
def spQ28 (SQ28 : TSQ28) : List Atom -> (V -> List Blk -> Bool) -> Bool := fun a_ c_ => match a_ with
 | [.bool b, .bool b_1, .ints b_2, .bool b_3, .ints b_4] => SQ28 b b_1 b_2 b_3 b_4 (fun r0 r1 => c_ (.ptr 0 0) [⟨57, 1, .cells [.bool r0, .roi .u32 r1]⟩, ⟨57, 1, .cells [.bool b_1, .roi .u32 b_2]⟩, ⟨57, 1, .cells [.bool b_3, .roi .u32 b_4]⟩])
 | _ => false
abbrev FQ28 (SQ28 : TSQ28) : Fs := mkFs shFQ28 (spQ28 SQ28)
def shFQ0 : FnSh := ⟨[.agg [.ptr 0 0, .int .i64], .agg [.ptr 1 0, .int .i64]], [some (57, 1, .cells [.bool, .roi .u32]), some (57, 1, .cells [.bool, .roi .u32])]⟩
def spQ0 (SQ0 : TSQ0) : List Atom -> (V -> List Blk -> Bool) -> Bool := fun a_ c_ => match a_ with
 | [.int x, .int y, .bool b, .ints b_1, .bool b_2, .ints b_3] => SQ0 x y b b_1 b_2 b_3 (c_ (.agg [.ptr 1 0, .int .i64 y]) [⟨57, 1, .cells [.bool b, .roi .u32 b_1]⟩, ⟨57, 1, .cells [.bool b_2, .roi .u32 b_3]⟩]) (c_ (.agg [.ptr 0 0, .int .i64 x]) [⟨57, 1, .cells [.bool b, .roi .u32 b_1]⟩, ⟨57, 1, .cells [.bool b_2, .roi .u32 b_3]⟩]) (fun r0 r5 r6 => c_ (.agg [.ptr 2 0, .int .i64 r0]) [⟨57, 1, .cells [.bool b, .roi .u32 b_1]⟩, ⟨57, 1, .cells [.bool b_2, .roi .u32 b_3]⟩, ⟨57, 1, .cells [.bool r5, .roi .u32 r6]⟩])
 | _ => false
abbrev FQ0 (SQ0 : TSQ0) : Fs := mkFs shFQ0 (spQ0 SQ0)
def shFQ74 : FnSh := ⟨[.flt], []⟩
def spQ74 (SQ74 : TSQ74) : List Atom -> (V -> List Blk -> Bool) -> Bool := fun a_ c_ => match a_ with
 | [.fl f] => SQ74 f (fun r0 => c_ (.bool r0) [])
 | _ => false
abbrev FQ74 (SQ74 : TSQ74) : Fs := mkFs shFQ74 (spQ74 SQ74)
def shFQ38 : FnSh := ⟨[.flt], []⟩
def spQ38 (SQ38 : TSQ38) : List Atom -> (V -> List Blk -> Bool) -> Bool := fun a_ c_ => match a_ with
 | [.fl x] => SQ38 x (fun r0 r1 => c_ (.tup [.flt r0, .int .i64 r1]) [])
 | _ => false
abbrev FQ38 (SQ38 : TSQ38) : Fs := mkFs shFQ38 (spQ38 SQ38)
def shFQ51 : FnSh := ⟨[.flt, .flt], []⟩
def spQ51 (SQ51 : TSQ51) : List Atom -> (V -> List Blk -> Bool) -> Bool := fun a_ c_ => match a_ with
 | [.fl f, .fl sign] => SQ51 f sign (fun r0 => c_ (.flt r0) [])
 | _ => false
abbrev FQ51 (SQ51 : TSQ51) : Fs := mkFs shFQ51 (spQ51 SQ51)
def shF_m_Inf : FnSh := ⟨[.int .i64], []⟩
def sp_m_Inf (S_m_Inf : TS_m_Inf) : List Atom -> (V -> List Blk -> Bool) -> Bool := fun a_ c_ => match a_ with
 | [.int sign] => S_m_Inf sign (fun r0 => c_ (.flt r0) [])
 | _ => false
abbrev F_m_Inf (S_m_Inf : TS_m_Inf) : Fs := mkFs shF_m_Inf (sp_m_Inf S_m_Inf)
def shFQ83 : FnSh := ⟨[.flt, .int .i64], []⟩
def spQ83 (SQ83 : TSQ83) : List Atom -> (V -> List Blk -> Bool) -> Bool := fun a_ c_ => match a_ with
 | [.fl frac, .int exp] => SQ83 frac exp (fun r0 => c_ (.flt r0) [])
 | _ => false
abbrev FQ83 (SQ83 : TSQ83) : Fs := mkFs shFQ83 (spQ83 SQ83)
def shFQ18 : FnSh := ⟨[.flt, .int .i64], []⟩
def spQ18 (SQ18 : TSQ18) : List Atom -> (V -> List Blk -> Bool) -> Bool := fun a_ c_ => match a_ with
 | [.fl frac, .int exp] => SQ18 frac exp (fun r0 => c_ (.flt r0) [])
 | _ => false
abbrev FQ18 (SQ18 : TSQ18) : Fs := mkFs shFQ18 (spQ18 SQ18)
def shFQ70 : FnSh := ⟨[.int .u64, .int .i64], []⟩
def spQ70 (SQ70 : TSQ70) : List Atom -> (V -> List Blk -> Bool) -> Bool := fun a_ c_ => match a_ with
 | [.int m, .int e] => SQ70 m e (fun r0 r1 => c_ (.tup [.int .u64 r0, .int .i64 r1]) [])
 | _ => false
abbrev FQ70 (SQ70 : TSQ70) : Fs := mkFs shFQ70 (spQ70 SQ70)
def shFQ67 : FnSh := ⟨[.flt], []⟩
def spQ67 (SQ67 : TSQ67) : List Atom -> (V -> List Blk -> Bool) -> Bool := fun a_ c_ => match a_ with
 | [.fl x] => SQ67 x (fun r0 r1 r2 r3 => c_ (.tup [.agg [.bool r0, .int .u64 r1, .int .i64 r2], .int .i64 r3]) [])
 | _ => false
abbrev FQ67 (SQ67 : TSQ67) : Fs := mkFs shFQ67 (spQ67 SQ67)
def shFQ30 : FnSh := ⟨[.ptr 0 0, .int .u64], [some (57, 1, .cells [.bool, .nil])]⟩
def spQ30 (SQ30 : TSQ30) : List Atom -> (V -> List Blk -> Bool) -> Bool := fun a_ c_ => match a_ with
 | [.int n, .bool b] => SQ30 n b (fun r0 r1 => c_ (.ptr 0 0) [⟨57, 1, .cells [.bool r0, .roi .u32 r1]⟩])
 | _ => false
abbrev FQ30 (SQ30 : TSQ30) : Fs := mkFs shFQ30 (spQ30 SQ30)
def shFQ58 : FnSh := ⟨[.ptr 0 0, .bool, .slw 1], [some (57, 1, .cells [.bool, .roi .u32]), some (156, 1, .ints .u32)]⟩
def spQ58 (SQ58 : TSQ58) : List Atom -> (V -> List Blk -> Bool) -> Bool := fun a_ c_ => match a_ with
 | [.bool neg, .bool b, .ints b_1, .ints b_2] => SQ58 neg b b_1 b_2 (fun r0 r1 r2 => c_ (.ptr 0 0) [⟨57, 1, .cells [.bool r0, .sl 1 r1 r2]⟩, ⟨156, 1, .ints .u32 b_2⟩])
 | _ => false
abbrev FQ58 (SQ58 : TSQ58) : Fs := mkFs shFQ58 (spQ58 SQ58)
def shFQ55 : FnSh := ⟨[.ptr 0 0, .ptr 0 0], [some (57, 1, .cells [.bool, .roi .u32])]⟩
def spQ55 (SQ55 : TSQ55) : List Atom -> (V -> List Blk -> Bool) -> Bool := fun a_ c_ => match a_ with
 | [.bool b, .ints b_1] => SQ55 b b_1 (fun r0 r1 => c_ (.ptr 0 0) [⟨57, 1, .cells [.bool r0, .roi .u32 r1]⟩])
 | _ => false
abbrev FQ55 (SQ55 : TSQ55) : Fs := mkFs shFQ55 (spQ55 SQ55)
def shFQ27 : FnSh := ⟨[.flt], []⟩
def spQ27 (SQ27 : TSQ27) : List Atom -> (V -> List Blk -> Bool) -> Bool := fun a_ c_ => match a_ with
 | [.fl x] => SQ27 x (fun r0 r1 r2 => c_ (.agg [.ptr 0 0, .int .i64 r0]) [⟨57, 1, .cells [.bool r1, .roi .u32 r2]⟩])
 | _ => false
abbrev FQ27 (SQ27 : TSQ27) : Fs := mkFs shFQ27 (spQ27 SQ27)
def shFQ65 : FnSh := ⟨[.roi .u32, .roi .u32], []⟩
def spQ65 (SQ65 : TSQ65) : List Atom -> (V -> List Blk -> Bool) -> Bool := fun a_ c_ => match a_ with
 | [.ints a, .ints b] => SQ65 a b (fun r0 => c_ (.roi .u32 r0) [])
 | _ => false
abbrev FQ65 (SQ65 : TSQ65) : Fs := mkFs shFQ65 (spQ65 SQ65)
def shFQ33 : FnSh := ⟨[.ptr 0 0, .ptr 1 0, .ptr 2 0], [some (57, 1, .cells [.bool, .nil]), some (57, 1, .cells [.bool, .roi .u32]), some (57, 1, .cells [.bool, .roi .u32])]⟩
def spQ33 (SQ33 : TSQ33) : List Atom -> (V -> List Blk -> Bool) -> Bool := fun a_ c_ => match a_ with
 | [.bool b, .bool b_1, .ints b_2, .bool b_3, .ints b_4] => SQ33 b b_1 b_2 b_3 b_4 (fun r0 r1 => c_ (.ptr 0 0) [⟨57, 1, .cells [.bool r0, .roi .u32 r1]⟩, ⟨57, 1, .cells [.bool b_1, .roi .u32 b_2]⟩, ⟨57, 1, .cells [.bool b_3, .roi .u32 b_4]⟩])
 | _ => false
abbrev FQ33 (SQ33 : TSQ33) : Fs := mkFs shFQ33 (spQ33 SQ33)
def shFQ2 : FnSh := ⟨[.agg [.ptr 0 0, .int .i64], .agg [.ptr 1 0, .int .i64]], [some (57, 1, .cells [.bool, .roi .u32]), some (57, 1, .cells [.bool, .roi .u32])]⟩
def spQ2 (SQ2 : TSQ2) : List Atom -> (V -> List Blk -> Bool) -> Bool := fun a_ c_ => match a_ with
 | [.int x, .int y, .bool b, .ints b_1, .bool b_2, .ints b_3] => SQ2 x y b b_1 b_2 b_3 (fun r0 r5 r6 => c_ (.agg [.ptr 2 0, .int .i64 r0]) [⟨57, 1, .cells [.bool b, .roi .u32 b_1]⟩, ⟨57, 1, .cells [.bool b_2, .roi .u32 b_3]⟩, ⟨57, 1, .cells [.bool r5, .roi .u32 r6]⟩])
 | _ => false
abbrev FQ2 (SQ2 : TSQ2) : Fs := mkFs shFQ2 (spQ2 SQ2)
def shFQ1 : FnSh := ⟨[.agg [.ptr 0 0, .int .i64], .agg [.ptr 1 0, .int .i64]], [some (57, 1, .cells [.bool, .roi .u32]), some (57, 1, .cells [.bool, .roi .u32])]⟩
def spQ1 (SQ1 : TSQ1) : List Atom -> (V -> List Blk -> Bool) -> Bool := fun a_ c_ => match a_ with
 | [.int x, .int y, .bool b, .ints b_1, .bool b_2, .ints b_3] => SQ1 x y b b_1 b_2 b_3 (fun r0 => c_ (.int .i64 r0) [⟨57, 1, .cells [.bool b, .roi .u32 b_1]⟩, ⟨57, 1, .cells [.bool b_2, .roi .u32 b_3]⟩])
 | _ => false
abbrev FQ1 (SQ1 : TSQ1) : Fs := mkFs shFQ1 (spQ1 SQ1)
def shFQ14 : FnSh := ⟨[.roi .u64, .int .i64, .roi .u64, .agg [.roi .u64, .int .u64, .int .u64]], []⟩
end Go.Proofs.YtjpaijnmiaoopaaGreatDoor
end
